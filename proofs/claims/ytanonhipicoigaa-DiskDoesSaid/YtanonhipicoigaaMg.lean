import Derived.Test.YtanonhipicoigaaMf
import Derived.Test.YtanonhipicoigaaMd
import Derived.Test.YtanonhipicoigaaMe
import Derived.BigRegion
import Derived.Deep.DeepCutAuto
namespace Go.Proofs.Ytanonhipicoigaa.T
open Go.RowKit Go.Proofs.YtanonhipicoigaaW.PrintWords
set_option linter.unusedVariables false
set_option linter.unusedSimpArgs false

/-! ### What the document's functions come to, in plain words -/
theorem wrap_nat {i n : Nat} (h : i < n) (hn : n ≤ 9223372036854775807) : wrap64 ((i : Int) + 1) = ((i + 1 : Nat) : Int) := by
  unfold wrap64
  omega
/-- Where the first file of a name is, from place i on. -/
def findN (s : ByteArray) : List S43 → Nat → Int
  | [], _ => -1
  | x :: xs, i => if x.f0.toList = s.toList then (i : Int) else findN s xs (i + 1)
theorem dropx {l : List S43} {i : Nat} (h : i < l.length) : ∃ x, l[i]? = some x ∧ l.drop i = x :: l.drop (i + 1) :=
  ⟨l[i], List.getElem?_eq_getElem h, List.drop_eq_getElem_cons h⟩
theorem find_l0 (l : List S43) (s : ByteArray) (hl : l.length ≤ 9223372036854775807) : ∀ (f i : Nat), i ≤ l.length → l.length - i < f → penstockref09_find.l0 f s l (l.length : Int) (i : Int) = some (findN s (l.drop i) i)
  | 0, i, hi, hf => by omega
  | f + 1, i, hi, hf => by
    rw [penstockref09_find.l0]
    by_cases h : i < l.length
    · obtain ⟨x, hx, hd⟩ := dropx h
      rw [if_pos (by omega), if_pos (by omega), if_pos (by omega), rd_get hx, hd, findN, wrap_nat h hl]
      by_cases e : x.f0.toList = s.toList
      · rw [if_pos e, if_pos e]
      · rw [if_neg e, if_neg e]
        exact find_l0 l s hl f (i + 1) (by omega) (by omega)
    · rw [if_neg (by omega), List.drop_eq_nil_of_le (by omega), findN]
theorem find_eq (l : List S43) (dn : Bool) (fu fa : Int) (s : ByteArray) (hl : l.length ≤ 9223372036854775807) : penstockref09_find.f (l.length + 1) l dn fu fa s = some (findN s l 0) :=
  find_l0 l s hl (l.length + 1) 0 (by omega) (by omega)
theorem findN_at (s : ByteArray) : ∀ (l : List S43) (j i : Nat) (x : S43), l[j]? = some x → x.f0.toList = s.toList → (∀ k y, k < j → l[k]? = some y → y.f0.toList ≠ s.toList) → findN s l i = ((i + j : Nat) : Int)
  | [], j, i, x, hx, e, h => by simp at hx
  | y :: ys, 0, i, x, hx, e, h => by
    simp at hx
    subst hx
    rw [findN, if_pos e]
    simp
  | y :: ys, j + 1, i, x, hx, e, h => by
    rw [findN, if_neg (h 0 y (by omega) rfl), findN_at s ys j (i + 1) x (by simpa using hx) e (fun k z hk hz => h (k + 1) z (by omega) (by simpa using hz))]
    congr 1
    omega
theorem findN_none (s : ByteArray) : ∀ (l : List S43) (i : Nat), (∀ x ∈ l, x.f0.toList ≠ s.toList) → findN s l i = -1
  | [], i, h => rfl
  | y :: ys, i, h => by
    rw [findN, if_neg (h y (by simp)), findN_none s ys (i + 1) (fun x hx => h x (by simp [hx]))]
theorem find_right {l : List S43} (h : rightF l = true) (s : ByteArray) : findN s l 0 = if isAt l s (bsOf l s) = true then (bsOf l s : Int) else -1 := by
  by_cases hi : isAt l s (bsOf l s) = true
  · obtain ⟨x, hx, e⟩ := (isAt_iff _ _ _).1 hi
    rw [if_pos hi, findN_at s l _ 0 x hx e, Nat.zero_add]
    intro k y hk hy e2
    exact bl_ne (bs_lo h s hk hy) e2
  · rw [if_neg hi]
    refine findN_none s l 0 fun x hx e => hi ((isAt_iff _ _ _).2 ⟨x, bs_found h s hx e, e⟩)
/-- What the document refuses, of a right disk. -/
def refF (l : List S43) (k : Int) (s d : ByteArray) (n : Int) : Int :=
  if k = 1 then rfC s l.length (bsOf l s) (isAt l s (bsOf l s))
  else if isAt l s (bsOf l s) = true then (if k = 2 then rfW d l (bsOf l s) true else if k = 4 then rfT n l (bsOf l s) true else 0) else 7
/-- The names of a disk's files. -/
def nameF (l : List S43) (dn : Bool) : List ByteArray × Int := if rightF l = true then (if dn = true then ([], 17) else (l.map (·.f0), 0)) else ([], 6)
theorem names_l0 (l : List S43) (hl : l.length ≤ 64) : ∀ (f i : Nat) (o : List ByteArray), i ≤ l.length → o.length ≤ i → l.length - i < f → disk_Names.l0 f o l (l.length : Int) (i : Int) = some (o ++ (l.drop i).map (·.f0), 0)
  | 0, i, o, hi, ho, hf => by omega
  | f + 1, i, o, hi, ho, hf => by
    rw [disk_Names.l0]
    by_cases h : i < l.length
    · obtain ⟨x, hx, hd⟩ := dropx h
      rw [if_pos (by omega), if_pos (by omega), if_pos (by omega), if_pos (by omega), rd_get hx, hd, wrap_nat h (by omega), names_l0 l hl f (i + 1) (o ++ [x.f0]) (by omega) (by simp; omega) (by omega)]
      simp
    · rw [if_neg (by omega), List.drop_eq_nil_of_le (by omega)]
      simp
theorem names_eq (l : List S43) (dn : Bool) (fu fa : Int) : disk_Names.f 70 l dn fu fa = some ((nameF l dn).1, (nameF l dn).2) := by
  unfold disk_Names.f disk_asked.f disk_Check.f nameF
  by_cases h : rightF l = true
  · simp only [if_pos h, Option.bind_some]
    cases dn
    · simp only [if_true, Bool.false_eq_true, if_false, Option.bind_some]
      rw [show (0 : Int) = ((0 : Nat) : Int) from rfl, names_l0 l (right_len h) 70 0 [] (by omega) (by simp) (by have := right_len h; omega)]
      simp
    · simp
  · simp only [if_neg h, Option.bind_some]
    simp
theorem texts_l0 (l : List ByteArray) (hl : l.length ≤ 9223372036854775807) : ∀ (f i : Nat), i ≤ l.length → l.length - i < f → penstockref09_Texts.l0 f l l (l.length : Int) (i : Int) = some true
  | 0, i, hi, hf => by omega
  | f + 1, i, hi, hf => by
    rw [penstockref09_Texts.l0]
    by_cases h : i < l.length
    · rw [if_pos (by omega), if_pos (by omega), if_pos (by omega), if_pos (by omega), if_pos rfl, wrap_nat h hl]
      exact texts_l0 l hl f (i + 1) (by omega) (by omega)
    · rw [if_neg (by omega)]
theorem texts_refl (l : List ByteArray) (hl : l.length ≤ 9223372036854775807) : penstockref09_Texts.f (l.length + 1) l l = some true := by
  rw [penstockref09_Texts.f, if_pos rfl]
  exact texts_l0 l hl (l.length + 1) 0 (by omega) (by omega)
theorem same_l0' (l : List S43) (dn : Bool) (fu fa : Int) (hl : l.length ≤ 9223372036854775807) : ∀ (f i : Nat), i ≤ l.length → l.length - i < f → penstockref09_Same.l0 f (l.length : Int) (i : Int) l dn fu fa l dn fu fa = some true
  | 0, i, hi, hf => by omega
  | f + 1, i, hi, hf => by
    rw [penstockref09_Same.l0]
    by_cases h : i < l.length
    · rw [if_pos (by omega), if_pos (by omega), if_pos (by omega), if_pos (by omega), wrap_nat h hl]
      simp only [beq_self_eq_true, Bool.not_true, Bool.or_self, Bool.false_eq_true, if_false]
      exact same_l0' l dn fu fa hl f (i + 1) (by omega) (by omega)
    · rw [if_neg (by omega)]
theorem same_any (l : List S43) (dn : Bool) (fu fa : Int) (hl : l.length ≤ 9223372036854775807) : penstockref09_Same.f (l.length + 2) l dn fu fa l dn fu fa = some true := by
  unfold penstockref09_Same.f
  rw [if_neg (by simp), if_pos rfl, if_pos rfl, penstockref09_Same.j0, if_neg (by simp)]
  exact same_l0' l dn fu fa hl (l.length + 1) 0 (by omega) (by omega)
theorem copy_any {l : List S43} (h : l.length < 3518437208883) (dn : Bool) (fu fa : Int) : penstockref09_Copy.f l dn fu fa = some (l, dn, fu, fa) := by
  unfold penstockref09_Copy.f
  simp only [Option.bind_some, List.length_nil, Nat.zero_add, if_pos h, List.nil_append]
/-! ### A change, done by the document -/
def altF (k : Int) (d : ByteArray) (n : Int) (x : S43) : List S43 :=
  if k = 2 then [⟨x.f0, x.f1 ++ d, x.f2⟩] else if k = 3 then [⟨x.f0, x.f1, (x.f1.size : Int)⟩] else if k = 4 then [⟨x.f0, x.f1.extract 0 n.toNat, n⟩] else if k = 5 then [] else [x]
def doneL (k : Int) (s d : ByteArray) (n : Int) : Bool → List S43 → List S43
  | true, [] => []
  | false, [] => [⟨s, ⟨#[]⟩, 0⟩]
  | put, x :: xs => (if put = false ∧ Op.bytesLess s.toList x.f0.toList = true then [⟨s, ⟨#[]⟩, 0⟩] else []) ++ (if x.f0.toList = s.toList then altF k d n x else [x]) ++ doneL k s d n (put || Op.bytesLess s.toList x.f0.toList) xs
/-- What the document does, of a right disk. -/
def dfF (l : List S43) (k : Int) (s d : ByteArray) (n : Int) : List S43 :=
  let b := bsOf l s
  if k = 1 then l.take b ++ [(⟨s, ⟨#[]⟩, 0⟩ : S43)] ++ l.drop b else if k = 2 then l.set b ⟨(rd_T43 l b).f0, (rd_T43 l b).f1 ++ d, (rd_T43 l b).f2⟩
  else if k = 3 then l.set b ⟨(rd_T43 l b).f0, (rd_T43 l b).f1, ((rd_T43 l b).f1.size : Int)⟩ else if k = 4 then l.set b ⟨(rd_T43 l b).f0, (rd_T43 l b).f1.extract 0 n.toNat, n⟩ else l.take b ++ l.drop (b + 1)
theorem done_put (k : Int) (s d : ByteArray) (n : Int) : ∀ (l : List S43), (∀ x ∈ l, x.f0.toList ≠ s.toList) → doneL k s d n true l = l
  | [], h => rfl
  | x :: xs, h => by
    rw [doneL, if_neg (by simp), if_neg (h x (by simp)), Bool.true_or, done_put k s d n xs (fun y hy => h y (by simp [hy]))]
    rfl
theorem done_new (k : Int) (s d : ByteArray) (n : Int) : ∀ (l : List S43) (b : Nat), (∀ x ∈ l, x.f0.toList ≠ s.toList) → (∀ i x, i < b → l[i]? = some x → Op.bytesLess s.toList x.f0.toList = false) → (∀ i x, b ≤ i → l[i]? = some x → Op.bytesLess s.toList x.f0.toList = true) → b ≤ l.length →
    doneL k s d n false l = l.take b ++ [(⟨s, ⟨#[]⟩, 0⟩ : S43)] ++ l.drop b
  | [], b, h, h1, h2, hb => by
    have : b = 0 := by simpa using hb
    subst this
    rfl
  | x :: xs, 0, h, h1, h2, hb => by
    have hx := h2 0 x (by omega) rfl
    rw [doneL, if_pos ⟨rfl, hx⟩, if_neg (h x (by simp)), hx, Bool.or_true, done_put k s d n xs (fun y hy => h y (by simp [hy]))]
    rfl
  | x :: xs, b + 1, h, h1, h2, hb => by
    have hx := h1 0 x (by omega) rfl
    rw [doneL, if_neg (by rw [hx]; simp), if_neg (h x (by simp)), hx, Bool.or_false, done_new k s d n xs b (fun y hy => h y (by simp [hy])) (fun i y hi hy => h1 (i + 1) y (by omega) (by simpa using hy)) (fun i y hi hy => h2 (i + 1) y (by omega) (by simpa using hy)) (by simp at hb; omega)]
    rfl
theorem done_alt (k : Int) (s d : ByteArray) (n : Int) : ∀ (l : List S43) (b : Nat) (x : S43), l[b]? = some x → x.f0.toList = s.toList → (∀ i y, i ≠ b → l[i]? = some y → y.f0.toList ≠ s.toList) →
    doneL k s d n true l = l.take b ++ altF k d n x ++ l.drop (b + 1)
  | [], b, x, hx, e, h => by simp at hx
  | y :: ys, 0, x, hx, e, h => by
    simp at hx
    subst hx
    rw [doneL, if_neg (by simp), if_pos e, Bool.true_or, done_put k s d n ys]
    · rfl
    · intro z hz
      obtain ⟨i, hi⟩ := List.getElem?_of_mem hz
      exact h (i + 1) z (by omega) (by simpa using hi)
  | y :: ys, b + 1, x, hx, e, h => by
    rw [doneL, if_neg (by simp), if_neg (h 0 y (by omega) rfl), Bool.true_or, done_alt k s d n ys b x (by simpa using hx) e (fun i z hi hz => h (i + 1) z (by omega) (by simpa using hz))]
    rfl
theorem set_split {l : List S43} {b : Nat} {x : S43} (hx : l[b]? = some x) (y : S43) : l.set b y = l.take b ++ [y] ++ l.drop (b + 1) := by
  have hb := (List.getElem?_eq_some_iff.1 hx).1
  rw [List.set_eq_take_append_cons_drop, if_pos hb]
  simp
theorem done_right {l : List S43} (h : rightF l = true) (k : Int) (s d : ByteArray) (n : Int) (hk0 : 1 ≤ k) (hk5 : k ≤ 5) (hr : refF l k s d n = 0) : doneL k s d n (k != 1) l = dfF l k s d n := by
  unfold refF at hr
  by_cases hk : k = 1
  · subst hk
    rw [if_pos rfl, rfC] at hr
    have hne : isAt l s (bsOf l s) = false := by
      cases e : isAt l s (bsOf l s) with
      | false => rfl
      | true =>
        rw [e] at hr
        split at hr <;> simp at hr
    have ha : ∀ x ∈ l, x.f0.toList ≠ s.toList := fun x hx e => by
      have := (isAt_iff l s (bsOf l s)).2 ⟨x, bs_found h s hx e, e⟩
      rw [hne] at this
      cases this
    rw [show ((1 : Int) != 1) = false from rfl, dfF, if_pos rfl]
    refine done_new 1 s d n l (bsOf l s) ha ?_ ?_ (bsOf_le l s)
    · intro i x hi hx
      exact bl_asymm _ _ (bs_lo h s hi hx)
    · intro i x hi hx
      rcases bl_total s.toList x.f0.toList with g | g | g
      · exact g
      · exact absurd g.symm (ha x (List.mem_of_getElem? hx))
      · exact absurd g (bs_hi h s hi hx)
  · rw [if_neg hk] at hr
    have hi : isAt l s (bsOf l s) = true := by
      cases e : isAt l s (bsOf l s) with
      | true => rfl
      | false => rw [e] at hr; simp at hr
    obtain ⟨x, hx, e⟩ := (isAt_iff _ _ _).1 hi
    have hb : (k != 1) = true := bne_iff_ne.2 hk
    rw [hb, done_alt k s d n l (bsOf l s) x hx e, dfF, if_neg hk, rd_get hx]
    · simp only [altF]
      by_cases h2 : k = 2
      · rw [if_pos h2, if_pos h2, set_split hx]
      rw [if_neg h2, if_neg h2]
      by_cases h3 : k = 3
      · rw [if_pos h3, if_pos h3, set_split hx]
      rw [if_neg h3, if_neg h3]
      by_cases h4 : k = 4
      · rw [if_pos h4, if_pos h4, set_split hx]
      rw [if_neg h4, if_neg h4, if_pos (by omega)]
      simp
    · intro i y hne hy e2
      exact hne (right_same h hy hx (e2.trans e.symm))
theorem df_len (l : List S43) (k : Int) (s d : ByteArray) (n : Int) : (dfF l k s d n).length ≤ l.length + 1 := by
  unfold dfF
  dsimp only
  have := bsOf_le l s
  repeat' split
  all_goals simp
  all_goals omega
/-- Both say the same of a step. -/
theorem do_doc {l : List S43} (h : rightF l = true) (dn : Bool) (fu fa k : Int) (s d : ByteArray) (n : Int) : doF l dn fu fa k s d n =
    if k < 1 ∨ 6 ≤ k then (l, dn, fu, fa, 5) else if dn = true then (l, dn, fu, fa, 17) else if refF l k s d n = 0 then
      (if fa = 0 then (l, dn, fu, -1, 18) else if fu = 0 then (if k = 2 then dfF l k s d n else l, true, fu, (if 0 < fa then wrap64 (fa - 1) else fa), 17)
       else (dfF l k s d n, dn, (if 0 < fu then wrap64 (fu - 1) else fu), (if 0 < fa then wrap64 (fa - 1) else fa), 0))
    else (l, dn, fu, fa, refF l k s d n) := by
  have hb : ((bsOf l s : Nat) : Int).toNat = bsOf l s := by simp
  unfold doF
  by_cases h1 : k = 1
  · subst h1
    simp [createF, changedF, h, refF, dfF]
  by_cases h2 : k = 2
  · subst h2
    simp [appendF, changedF, h, refF, dfF]
    cases isAt l s (bsOf l s) <;> simp [rfW]
  by_cases h3 : k = 3
  · subst h3
    simp [syncF, changedF, h, refF, dfF]
  by_cases h4 : k = 4
  · subst h4
    simp [cutF, changedF, h, refF, dfF]
    cases isAt l s (bsOf l s) <;> simp [rfT]
  by_cases h5 : k = 5
  · subst h5
    simp [removeF, changedF, h, refF, dfF]
  rw [if_neg h1, if_neg h2, if_neg h3, if_neg h4, if_neg h5, if_pos h, if_pos (by omega)]
theorem do_bad {l : List S43} (h : ¬ rightF l = true) (dn : Bool) (fu fa k : Int) (s d : ByteArray) (n : Int) : doF l dn fu fa k s d n = ([], false, 0, 0, 6) := by
  unfold doF createF appendF syncF cutF removeF changedF
  simp only [if_neg h]
  simp
end Go.Proofs.Ytanonhipicoigaa.T

namespace Go.Proofs.Ytanonhipicoigaa.T
open Go.RowKit Go.Proofs.YtanonhipicoigaaW.PrintWords Go.Proofs.YtanonhipicoigaaW.PrintLast Go.Proofs.YtanonhipicoigaaW.PrintMore Go.Proofs.Ytanonhipicoigaa.Sp
set_option linter.unusedVariables false
/-- A row of flat elements, handed back. -/
theorem sep_own {b W : World} {rs : List Res} {α : Type} {d : Kd α} {e : TypeId} {v : Value} {l : List α} (H : Sep b W rs) (hm : row d e v l ∈ rs)
    (hd : ∀ {base : Nat} {ok1 ok2 : Nat → Prop} {x : α} {cs : List Value}, d.M W 0 ok1 x cs → d.M W base ok2 x cs) : Kd.R d e W b.heap.size (fun _ => True) v l := by
  have hb := H.base _ hm
  obtain ⟨h0, inner, ho, hr⟩ := H.row_ hm
  refine ⟨fun _ _ => trivial, inner, ?_, hr.imp_ (fun _ _ hp => hd hp)⟩
  obtain ⟨h1, h2⟩ := ho
  rcases h2 with ⟨rfl, h2⟩ | ⟨g, cap, cur, rfl, hg, h3⟩
  · exact ⟨h1, .inl ⟨rfl, h2⟩⟩
  · exact ⟨h1, .inr ⟨g, cap, cur, rfl, hb g rfl, h3⟩⟩
theorem k43_flat2 {W : World} {base : Nat} {ok1 ok2 : Nat → Prop} {x : S43} {cs : List Value} (h : k43.M W 0 ok1 x cs) : k43.M W base ok2 x cs := by
  obtain rfl := k43_openM h
  exact k43_mkM _ _ _ _
theorem string_flat2 {W : World} {base : Nat} {ok1 ok2 : Nat → Prop} {x : ByteArray} {cs : List Value} (h : Kd.string.M W 0 ok1 x cs) : Kd.string.M W base ok2 x cs := h
theorem flat_43 : Flat k43 := k43_flat
end Go.Proofs.Ytanonhipicoigaa.T

namespace Go.Proofs.Ytanonhipicoigaa.T
open Go.RowKit Go.Proofs.YtanonhipicoigaaW.PrintWords Go.Proofs.YtanonhipicoigaaW.PrintLast Go.Proofs.YtanonhipicoigaaW.PrintMore Go.Proofs.Ytanonhipicoigaa.Sp
set_option linter.unusedVariables false
set_option linter.unusedSimpArgs false

/-- The name that lies ahead of place i. -/
def lastN (l : List S43) (i : Nat) : List UInt8 := if i = 0 then [] else (rd_T43 l ((i : Int) - 1)).f0.toList
theorem lastN_zero (l : List S43) : lastN l 0 = [] := rfl
theorem lastN_succ {l : List S43} {i : Nat} {x : S43} (h : l[i]? = some x) : lastN l (i + 1) = x.f0.toList := by
 unfold lastN
 rw [if_neg (by omega), show ((i + 1 : Nat) : Int) - 1 = (i : Int) by omega, rd_get h]
theorem drop_get {l : List S43} {i : Nat} {x : S43} (h : l[i]? = some x) : l.drop i = x :: l.drop (i + 1) := by
 have hi := (List.getElem?_eq_some_iff.1 h).1
 rw [List.drop_eq_getElem_cons hi, (List.getElem?_eq_some_iff.1 h).2]
set_option maxHeartbeats 8000000 in
set_option maxRecDepth 100000 in
theorem rCheck.calls (A : Option Addr) (c : Nat) (l : List S43) (dn : Bool) (fu fa : Int) (w : World) (hr : Kd.C k43 w A l.length l) (hc : l.length ≤ c) :
  Calls Try.prog 26 #[.agg #[.slice A l.length c, .bool dn, .int .i64 fu, .int .i64 fa]] w fun e w' => e = .returned (.int .i64 (if rightF l = true then 0 else 6)) ∧ Below w.heap.size w w' := by
 obtain ⟨r, hr0⟩ : ∃ r : Int, r = if rightF l = true then 0 else 6 := ⟨_, rfl⟩
 rw [← hr0]
 have HR0 := Aside0.mk hr0
 clear hr0
 have HRp := Aside0.mk hr
 have HCp := Aside0.mk hc
 have HMX := Aside0.mk (Kd.C_max hr)
 clear hr hc
 have H := Aside0.mk (Sep.start w)
 go_enter Try.func26, Try.ntmps26
 have hmax := HMX.out
 by_cases h64 : 64 < l.length
 ·
  go_wp2_with (first
 | ((with_reducible refine gate_dst (N := 1) rfl ?_);
    refine new_box rfl H (cs := [.slice A l.length c, .bool dn, .int .i64 fu, .int .i64 fa]) (t := 24) ?hr ?_;
    (case hr => first | (go_simp; done) | (go_simp; rfl));
    intro gd wd1 n_;
    simp only [Act.put, List.setIfInBounds_toArray, List.set_cons_zero, List.set_cons_succ];
    clear H;
    have H := n_;
    clear n_;
    have c_d := H.out.cell (g := gd) mem0)
 | fail)
  go_ret
  exact ⟨by rw [HR0.out, if_neg (fun h => by have := right_len h; omega)]; rfl, H.out.below⟩
 ·
  go_wp2_with (first
 | ((with_reducible refine gate_dst (N := 1) rfl ?_);
    refine new_box rfl H (cs := [.slice A l.length c, .bool dn, .int .i64 fu, .int .i64 fa]) (t := 24) ?hr ?_;
    (case hr => first | (go_simp; done) | (go_simp; rfl));
    intro gd wd2 n_;
    simp only [Act.put, List.setIfInBounds_toArray, List.set_cons_zero, List.set_cons_succ];
    clear H;
    have H := n_;
    clear n_;
    have c_d := H.out.cell (g := gd) mem0)
 | fail)
  go_loopw [12] (fun v12 wr => ∃ i : Nat, v12 = .int .i64 (i : Int) ∧ i ≤ l.length ∧ Aside0 (okFiles (lastN l i) (l.drop i) = okFiles [] l) ∧ Aside0 (Sep w wr [box gd [.slice A l.length c, .bool dn, .int .i64 fu, .int .i64 fa] 24]))
   (fun v12 _ => l.length - (intOf v12).toNat)
  case atStart => exact ⟨0, rfl, by omega, ⟨rfl⟩, H⟩
  case round =>
   clear H c_d
   obtain ⟨i, rfl, hi, HG, H⟩ := hrel
   have c_d := H.out.cell (g := gd) mem0
   by_cases hil : i < l.length
   ·
    obtain ⟨x, hx⟩ : ∃ x, l[i]? = some x := ⟨_, List.getElem?_eq_getElem hil⟩
    obtain ⟨ad, e1⟩ : ∃ ad, A = some ad := (at_T43 HRp.out (i : Int) (by omega) (by omega)).imp fun _ h => h.1
    subst e1
    obtain ⟨h0, h1, h2⟩ := at43 (H.out.came HRp.out) hx
    have HX := Aside0.mk hx
    have HD := Aside0.mk (drop_get hx)
    have HLS := Aside0.mk (lastN_succ hx)
    clear hx
    have hi0 : (0 : Int) ≤ (i : Int) := by omega
    have hi1 : (i : Int) < (l.length : Int) := by omega
    by_cases hok : okFile (lastN l i) x = true
    ·
     have HOK := Aside0.mk hok
     simp only [okFile, Bool.and_eq_true, decide_eq_true_eq] at hok
     obtain ⟨⟨⟨⟨c1, c2⟩, c3⟩, c4⟩, c5⟩ := hok
     have q1 : (x.f0.toList == ([] : List UInt8)) = false := by
      simp only [beq_eq_false_iff_ne, ne_eq]
      intro e
      rw [e] at c1
      cases hh : lastN l i <;> rw [hh] at c1 <;> simp [Op.bytesLess] at c1
     have q2 : decide ((4096 : Int) < (x.f0.size : Int)) = false := decide_eq_false (by omega)
     have q3 : decide ((262144 : Int) < (x.f1.size : Int)) = false := decide_eq_false (by omega)
     have q4 : decide (x.f2 < 0) = false := decide_eq_false (by omega)
     have q5 : decide ((x.f1.size : Int) < x.f2) = false := decide_eq_false (by omega)
     have q6 : x.f0.size ≤ 4096 := c2
     clear c2 c3 c4
     rcases Nat.eq_zero_or_pos i with hz | hz
     ·
      clear c1
      have q7 : decide (0 < i) = false := decide_eq_false (by omega)
      clear hz
      go_wp2_with (first
 | ((with_reducible refine gate_dst (N := 4) rfl ?_);
    refine new_box rfl H (cs := [.string ⟨#[]⟩, .string ⟨#[]⟩, .int .i64 0]) (t := 43) ?hr ?_;
    (case hr => first | (go_simp; done) | (go_simp; rfl));
    intro gf wd3 n_;
    simp only [Act.put, List.setIfInBounds_toArray, List.set_cons_zero, List.set_cons_succ];
    clear H c_d;
    have H := n_;
    clear n_;
    have c_f := H.out.cell (g := gf) mem0;
    have z_f := H.out.frozen (g := gf) mem0;
    have c_d := H.out.cell (g := gd) mem1)
 | ((with_reducible refine gate_store (t := 43) (p := 4) rfl ?_);
    refine put_box (rs1 := [box gf [.string x.f0, .string x.f1, .int .i64 x.f2] 43, box gd [.slice (some ad) l.length c, .bool dn, .int .i64 fu, .int .i64 fa] 24]) rfl (t := 43) (p := 4) rfl rfl ?hr (H1 := (Sep.set0 (Sep.set0 (Sep.set0 H.out 0 (.string x.f0) rfl) 1 (.string x.f1) rfl) 2 (.int .i64 x.f2) rfl)) ?_;
    (case hr => first | (go_simp; done) | (go_simp; rfl));
    intro wd4 n_;
    clear H c_f z_f c_d;
    have H := n_;
    clear n_;
    have c_f := H.out.cell (g := gf) mem0;
    have z_f := H.out.frozen (g := gf) mem0;
    have c_d := H.out.cell (g := gd) mem1;
    clear h0 h1 h2)
 | fail)
      
      go_quiet (fail)
      go_wp2
      refine ⟨⟨i + 1, by congr 1, by omega, ⟨?_⟩, ⟨?_⟩⟩, by simp [intOf]; omega⟩
      ·
       rw [HLS.out, ← HG.out, HD.out, okFiles, HOK.out, Bool.true_and]
      ·
       exact (Sep.drop0 (Sep.drewN H.out _))
     ·
      obtain ⟨y, hy⟩ : ∃ y, y = rd_T43 l ((i : Int) - 1) := ⟨_, rfl⟩
      have q7 : decide (0 < i) = true := decide_eq_true (by omega)
      rw [lastN, if_neg (by omega), ← hy] at c1
      have hp0 : (0 : Int) ≤ (i : Int) - 1 := by omega
      have hp1 : (i : Int) - 1 < (l.length : Int) := by omega
      have hp2 : (1 : Int) ≤ (i : Int) := by omega
      have hpw : IntKind.i64.wrap ((i : Int) - 1) = (i : Int) - 1 := by rw [IntKind.wrap_i64]; omega
      clear hz
      go_wp2_with (first
 | ((with_reducible refine gate_dst (N := 4) rfl ?_);
    refine new_box rfl H (cs := [.string ⟨#[]⟩, .string ⟨#[]⟩, .int .i64 0]) (t := 43) ?hr ?_;
    (case hr => first | (go_simp; done) | (go_simp; rfl));
    intro gf wd5 n_;
    simp only [Act.put, List.setIfInBounds_toArray, List.set_cons_zero, List.set_cons_succ];
    clear H c_d;
    have H := n_;
    clear n_;
    have c_f := H.out.cell (g := gf) mem0;
    have z_f := H.out.frozen (g := gf) mem0;
    have c_d := H.out.cell (g := gd) mem1)
 | ((with_reducible refine gate_store (t := 43) (p := 4) rfl ?_);
    refine put_box (rs1 := [box gf [.string x.f0, .string x.f1, .int .i64 x.f2] 43, box gd [.slice (some ad) l.length c, .bool dn, .int .i64 fu, .int .i64 fa] 24]) rfl (t := 43) (p := 4) rfl rfl ?hr (H1 := (Sep.set0 (Sep.set0 (Sep.set0 H.out 0 (.string x.f0) rfl) 1 (.string x.f1) rfl) 2 (.int .i64 x.f2) rfl)) ?_;
    (case hr => first | (go_simp; done) | (go_simp; rfl));
    intro wd6 n_;
    clear H c_f z_f c_d;
    have H := n_;
    clear n_;
    have c_f := H.out.cell (g := gf) mem0;
    have z_f := H.out.frozen (g := gf) mem0;
    have c_d := H.out.cell (g := gd) mem1;
    clear h0 h1 h2)
 | fail)
      have h3 := (at_T43 (H.out.came HRp.out) ((i : Int) - 1) (by omega) (by omega)).elim fun a h => (Option.some.inj h.1 ▸ h.2.1)
      rw [← hy] at h3
      simp only [Int.pred_toNat, Int.toNat_natCast] at h3
      clear hy
      go_quiet (fail)
      go_wp2
      refine ⟨⟨i + 1, by congr 1, by omega, ⟨?_⟩, ⟨?_⟩⟩, by simp [intOf]; omega⟩
      ·
       rw [HLS.out, ← HG.out, HD.out, okFiles, HOK.out, Bool.true_and]
      ·
       exact (Sep.drop0 (Sep.drewN H.out _))
    ·
     have hok2 : okFile (lastN l i) x = false := by simpa using hok
     have HR6 : Aside0 (r = 6) := by
      refine ⟨?_⟩
      rw [HR0.out, if_neg]
      intro h
      rw [rightF, ← HG.out, HD.out, okFiles, hok2] at h
      simp at h
     clear hok
     cases q1 : (x.f0.toList == ([] : List UInt8))
     ·
      by_cases q2 : 4096 < (x.f0.size : Int)
      ·
       clear hok2
       have dq2 := decide_eq_true q2
       go_wp2_with (first
 | ((with_reducible refine gate_dst (N := 4) rfl ?_);
    refine new_box rfl H (cs := [.string ⟨#[]⟩, .string ⟨#[]⟩, .int .i64 0]) (t := 43) ?hr ?_;
    (case hr => first | (go_simp; done) | (go_simp; rfl));
    intro gf wd7 n_;
    simp only [Act.put, List.setIfInBounds_toArray, List.set_cons_zero, List.set_cons_succ];
    clear H c_d;
    have H := n_;
    clear n_;
    have c_f := H.out.cell (g := gf) mem0;
    have z_f := H.out.frozen (g := gf) mem0;
    have c_d := H.out.cell (g := gd) mem1)
 | ((with_reducible refine gate_store (t := 43) (p := 4) rfl ?_);
    refine put_box (rs1 := [box gf [.string x.f0, .string x.f1, .int .i64 x.f2] 43, box gd [.slice (some ad) l.length c, .bool dn, .int .i64 fu, .int .i64 fa] 24]) rfl (t := 43) (p := 4) rfl rfl ?hr (H1 := (Sep.set0 (Sep.set0 (Sep.set0 H.out 0 (.string x.f0) rfl) 1 (.string x.f1) rfl) 2 (.int .i64 x.f2) rfl)) ?_;
    (case hr => first | (go_simp; done) | (go_simp; rfl));
    intro wd8 n_;
    clear H c_f z_f c_d;
    have H := n_;
    clear n_;
    have c_f := H.out.cell (g := gf) mem0;
    have z_f := H.out.frozen (g := gf) mem0;
    have c_d := H.out.cell (g := gd) mem1;
    clear h0 h1 h2)
 | fail)
       
       go_quiet (fail)
       go_wp2
       go_ret
       exact ⟨HR6.out.symm ▸ rfl, (Sep.drewN H.out _).below⟩
      ·
       have dq2 := decide_eq_false q2
       by_cases q3 : 262144 < (x.f1.size : Int)
       ·
        clear hok2
        have dq3 := decide_eq_true q3
        go_wp2_with (first
 | ((with_reducible refine gate_dst (N := 4) rfl ?_);
    refine new_box rfl H (cs := [.string ⟨#[]⟩, .string ⟨#[]⟩, .int .i64 0]) (t := 43) ?hr ?_;
    (case hr => first | (go_simp; done) | (go_simp; rfl));
    intro gf wd9 n_;
    simp only [Act.put, List.setIfInBounds_toArray, List.set_cons_zero, List.set_cons_succ];
    clear H c_d;
    have H := n_;
    clear n_;
    have c_f := H.out.cell (g := gf) mem0;
    have z_f := H.out.frozen (g := gf) mem0;
    have c_d := H.out.cell (g := gd) mem1)
 | ((with_reducible refine gate_store (t := 43) (p := 4) rfl ?_);
    refine put_box (rs1 := [box gf [.string x.f0, .string x.f1, .int .i64 x.f2] 43, box gd [.slice (some ad) l.length c, .bool dn, .int .i64 fu, .int .i64 fa] 24]) rfl (t := 43) (p := 4) rfl rfl ?hr (H1 := (Sep.set0 (Sep.set0 (Sep.set0 H.out 0 (.string x.f0) rfl) 1 (.string x.f1) rfl) 2 (.int .i64 x.f2) rfl)) ?_;
    (case hr => first | (go_simp; done) | (go_simp; rfl));
    intro wd10 n_;
    clear H c_f z_f c_d;
    have H := n_;
    clear n_;
    have c_f := H.out.cell (g := gf) mem0;
    have z_f := H.out.frozen (g := gf) mem0;
    have c_d := H.out.cell (g := gd) mem1;
    clear h0 h1 h2)
 | fail)
        
        go_quiet (fail)
        go_wp2
        go_ret
        exact ⟨HR6.out.symm ▸ rfl, (Sep.drewN H.out _).below⟩
       ·
        have dq3 := decide_eq_false q3
        by_cases q4 : x.f2 < 0
        ·
         clear hok2
         have dq4 := decide_eq_true q4
         go_wp2_with (first
 | ((with_reducible refine gate_dst (N := 4) rfl ?_);
    refine new_box rfl H (cs := [.string ⟨#[]⟩, .string ⟨#[]⟩, .int .i64 0]) (t := 43) ?hr ?_;
    (case hr => first | (go_simp; done) | (go_simp; rfl));
    intro gf wd11 n_;
    simp only [Act.put, List.setIfInBounds_toArray, List.set_cons_zero, List.set_cons_succ];
    clear H c_d;
    have H := n_;
    clear n_;
    have c_f := H.out.cell (g := gf) mem0;
    have z_f := H.out.frozen (g := gf) mem0;
    have c_d := H.out.cell (g := gd) mem1)
 | ((with_reducible refine gate_store (t := 43) (p := 4) rfl ?_);
    refine put_box (rs1 := [box gf [.string x.f0, .string x.f1, .int .i64 x.f2] 43, box gd [.slice (some ad) l.length c, .bool dn, .int .i64 fu, .int .i64 fa] 24]) rfl (t := 43) (p := 4) rfl rfl ?hr (H1 := (Sep.set0 (Sep.set0 (Sep.set0 H.out 0 (.string x.f0) rfl) 1 (.string x.f1) rfl) 2 (.int .i64 x.f2) rfl)) ?_;
    (case hr => first | (go_simp; done) | (go_simp; rfl));
    intro wd12 n_;
    clear H c_f z_f c_d;
    have H := n_;
    clear n_;
    have c_f := H.out.cell (g := gf) mem0;
    have z_f := H.out.frozen (g := gf) mem0;
    have c_d := H.out.cell (g := gd) mem1;
    clear h0 h1 h2)
 | fail)
         
         go_quiet (fail)
         go_wp2
         go_ret
         exact ⟨HR6.out.symm ▸ rfl, (Sep.drewN H.out _).below⟩
        ·
         have dq4 := decide_eq_false q4
         by_cases q5 : (x.f1.size : Int) < x.f2
         ·
          clear hok2
          have dq5 := decide_eq_true q5
          go_wp2_with (first
 | ((with_reducible refine gate_dst (N := 4) rfl ?_);
    refine new_box rfl H (cs := [.string ⟨#[]⟩, .string ⟨#[]⟩, .int .i64 0]) (t := 43) ?hr ?_;
    (case hr => first | (go_simp; done) | (go_simp; rfl));
    intro gf wd13 n_;
    simp only [Act.put, List.setIfInBounds_toArray, List.set_cons_zero, List.set_cons_succ];
    clear H c_d;
    have H := n_;
    clear n_;
    have c_f := H.out.cell (g := gf) mem0;
    have z_f := H.out.frozen (g := gf) mem0;
    have c_d := H.out.cell (g := gd) mem1)
 | ((with_reducible refine gate_store (t := 43) (p := 4) rfl ?_);
    refine put_box (rs1 := [box gf [.string x.f0, .string x.f1, .int .i64 x.f2] 43, box gd [.slice (some ad) l.length c, .bool dn, .int .i64 fu, .int .i64 fa] 24]) rfl (t := 43) (p := 4) rfl rfl ?hr (H1 := (Sep.set0 (Sep.set0 (Sep.set0 H.out 0 (.string x.f0) rfl) 1 (.string x.f1) rfl) 2 (.int .i64 x.f2) rfl)) ?_;
    (case hr => first | (go_simp; done) | (go_simp; rfl));
    intro wd14 n_;
    clear H c_f z_f c_d;
    have H := n_;
    clear n_;
    have c_f := H.out.cell (g := gf) mem0;
    have z_f := H.out.frozen (g := gf) mem0;
    have c_d := H.out.cell (g := gd) mem1;
    clear h0 h1 h2)
 | fail)
          
          go_quiet (fail)
          go_wp2
          go_ret
          exact ⟨HR6.out.symm ▸ rfl, (Sep.drewN H.out _).below⟩
         ·
          have dq5 := decide_eq_false q5
          have c1 : Op.bytesLess (lastN l i) x.f0.toList = false := by
           cases hh : Op.bytesLess (lastN l i) x.f0.toList with
           | false => rfl
           | true =>
            simp only [okFile, hh, Bool.true_and] at hok2
            simp at hok2
            omega
          clear hok2
          rcases Nat.eq_zero_or_pos i with hz | hz
          ·
           exfalso
           subst hz
           rw [lastN_zero] at c1
           cases hh : x.f0.toList with
           | nil => rw [hh] at q1; simp at q1
           | cons a b => rw [hh] at c1; simp [Op.bytesLess] at c1
          obtain ⟨y, hy⟩ : ∃ y, y = rd_T43 l ((i : Int) - 1) := ⟨_, rfl⟩
          have q7 : decide (0 < i) = true := decide_eq_true (by omega)
          rw [lastN, if_neg (by omega), ← hy] at c1
          have hp2 : (1 : Int) ≤ (i : Int) := by omega
          have hp1 : (i : Int) - 1 < (l.length : Int) := by omega
          have hpw : IntKind.i64.wrap ((i : Int) - 1) = (i : Int) - 1 := by rw [IntKind.wrap_i64]; omega
          clear hz
          go_wp2_with (first
 | ((with_reducible refine gate_dst (N := 4) rfl ?_);
    refine new_box rfl H (cs := [.string ⟨#[]⟩, .string ⟨#[]⟩, .int .i64 0]) (t := 43) ?hr ?_;
    (case hr => first | (go_simp; done) | (go_simp; rfl));
    intro gf wd15 n_;
    simp only [Act.put, List.setIfInBounds_toArray, List.set_cons_zero, List.set_cons_succ];
    clear H c_d;
    have H := n_;
    clear n_;
    have c_f := H.out.cell (g := gf) mem0;
    have z_f := H.out.frozen (g := gf) mem0;
    have c_d := H.out.cell (g := gd) mem1)
 | ((with_reducible refine gate_store (t := 43) (p := 4) rfl ?_);
    refine put_box (rs1 := [box gf [.string x.f0, .string x.f1, .int .i64 x.f2] 43, box gd [.slice (some ad) l.length c, .bool dn, .int .i64 fu, .int .i64 fa] 24]) rfl (t := 43) (p := 4) rfl rfl ?hr (H1 := (Sep.set0 (Sep.set0 (Sep.set0 H.out 0 (.string x.f0) rfl) 1 (.string x.f1) rfl) 2 (.int .i64 x.f2) rfl)) ?_;
    (case hr => first | (go_simp; done) | (go_simp; rfl));
    intro wd16 n_;
    clear H c_f z_f c_d;
    have H := n_;
    clear n_;
    have c_f := H.out.cell (g := gf) mem0;
    have z_f := H.out.frozen (g := gf) mem0;
    have c_d := H.out.cell (g := gd) mem1;
    clear h0 h1 h2)
 | fail)
          have h3 := (at_T43 (H.out.came HRp.out) ((i : Int) - 1) (by omega) (by omega)).elim fun a h => (Option.some.inj h.1 ▸ h.2.1)
          rw [← hy] at h3
          simp only [Int.pred_toNat, Int.toNat_natCast] at h3
          clear hy
          go_quiet (fail)
          go_wp2
          go_ret
          exact ⟨HR6.out.symm ▸ rfl, (Sep.drewN H.out _).below⟩
     ·
      clear hok2
      go_wp2_with (first
 | ((with_reducible refine gate_dst (N := 4) rfl ?_);
    refine new_box rfl H (cs := [.string ⟨#[]⟩, .string ⟨#[]⟩, .int .i64 0]) (t := 43) ?hr ?_;
    (case hr => first | (go_simp; done) | (go_simp; rfl));
    intro gf wd17 n_;
    simp only [Act.put, List.setIfInBounds_toArray, List.set_cons_zero, List.set_cons_succ];
    clear H c_d;
    have H := n_;
    clear n_;
    have c_f := H.out.cell (g := gf) mem0;
    have z_f := H.out.frozen (g := gf) mem0;
    have c_d := H.out.cell (g := gd) mem1)
 | ((with_reducible refine gate_store (t := 43) (p := 4) rfl ?_);
    refine put_box (rs1 := [box gf [.string x.f0, .string x.f1, .int .i64 x.f2] 43, box gd [.slice (some ad) l.length c, .bool dn, .int .i64 fu, .int .i64 fa] 24]) rfl (t := 43) (p := 4) rfl rfl ?hr (H1 := (Sep.set0 (Sep.set0 (Sep.set0 H.out 0 (.string x.f0) rfl) 1 (.string x.f1) rfl) 2 (.int .i64 x.f2) rfl)) ?_;
    (case hr => first | (go_simp; done) | (go_simp; rfl));
    intro wd18 n_;
    clear H c_f z_f c_d;
    have H := n_;
    clear n_;
    have c_f := H.out.cell (g := gf) mem0;
    have z_f := H.out.frozen (g := gf) mem0;
    have c_d := H.out.cell (g := gd) mem1;
    clear h0 h1 h2)
 | fail)
      
      go_quiet (fail)
      go_wp2
      go_ret
      exact ⟨HR6.out.symm ▸ rfl, (Sep.drewN H.out _).below⟩
   ·
    have HR1 : Aside0 (r = 0) := by
     refine ⟨?_⟩
     rw [HR0.out, if_pos]
     rw [rightF, ← HG.out, List.drop_eq_nil_of_le (by omega), okFiles, decide_eq_true (by omega : l.length ≤ 64)]
     rfl
    go_wp2_with fail
    go_ret
    exact ⟨HR1.out.symm ▸ rfl, H.out.below⟩
end Go.Proofs.Ytanonhipicoigaa.T

namespace Go.Proofs.Ytanonhipicoigaa.T
open Go.RowKit Go.Proofs.YtanonhipicoigaaW.PrintWords Go.Proofs.YtanonhipicoigaaW.PrintLast Go.Proofs.YtanonhipicoigaaW.PrintMore Go.Proofs.Ytanonhipicoigaa.Sp
set_option linter.unusedVariables false
set_option linter.unusedSimpArgs false
set_option maxHeartbeats 8000000 in
set_option maxRecDepth 100000 in
theorem rRefuses.calls (A : Option Addr) (c : Nat) (l : List S43) (dn : Bool) (fu fa : Int) (k : Int) (nm dt : ByteArray) (n : Int) (w : World) (hr : Kd.C k43 w A l.length l) (hc : l.length ≤ c) (hok : rightF l = true) :
  Calls Try.prog 39 #[.agg #[.slice A l.length c, .bool dn, .int .i64 fu, .int .i64 fa], .agg #[.int .u8 k, .string nm, .string dt, .int .i64 n]] w fun e w' => e = .returned (.int .i64 (refF l k nm dt n)) ∧ Below w.heap.size w w' := by
 have HOK := Aside0.mk hok
 clear hok
 obtain ⟨r, hr0⟩ : ∃ r : Int, r = refF l k nm dt n := ⟨_, rfl⟩
 rw [← hr0]
 have HR0 := Aside0.mk hr0
 clear hr0
 have hmax : l.length ≤ 64 := right_len HOK.out
 have HRp := Aside0.mk hr
 have HCp := Aside0.mk hc
 have HMX := Aside0.mk (Kd.C_max hr)
 clear hr hc
 have H := Aside0.mk (Sep.start w)
 go_enter Try.func39, Try.ntmps39
 go_wp2_with (first
 | ((with_reducible refine gate_dst (N := 2) rfl ?_);
    refine new_box rfl H (cs := [.slice A l.length c, .bool dn, .int .i64 fu, .int .i64 fa]) (t := 24) ?hr ?_;
    (case hr => first | (go_simp; done) | (go_simp; rfl));
    intro gd wd19 n_;
    simp only [Act.put, List.setIfInBounds_toArray, List.set_cons_zero, List.set_cons_succ];
    clear H;
    have H := n_;
    clear n_;
    have c_d := H.out.cell (g := gd) mem0)
 | ((with_reducible refine gate_dst (N := 3) rfl ?_);
    refine new_box rfl H (cs := [.int .u8 k, .string nm, .string dt, .int .i64 n]) (t := 38) ?hr ?_;
    (case hr => first | (go_simp; done) | (go_simp; rfl));
    intro gs wd20 n_;
    simp only [Act.put, List.setIfInBounds_toArray, List.set_cons_zero, List.set_cons_succ];
    clear H c_d;
    have H := n_;
    clear n_;
    have c_s := H.out.cell (g := gs) mem0;
    have c_d := H.out.cell (g := gd) mem1)
 | fail)
 refine ((penstockref09_find.calls (l.length + 1) A c l dn fu fa nm (findN nm l 0) _ (H.out.came HRp.out) HCp.out (find_eq l dn fu fa nm HMX.out)).mono ?_)
 rintro e wd21 ⟨rfl, hb_⟩
 have n_ : Aside0 (Sep w wd21 [box gs [.int .u8 k, .string nm, .string dt, .int .i64 n] 38, box gd [.slice A l.length c, .bool dn, .int .i64 fu, .int .i64 fa] 24]) := ⟨H.out.step hb_⟩
 clear H c_s c_d
 have H := n_
 clear n_
 have c_s := H.out.cell (g := gs) mem0
 have c_d := H.out.cell (g := gd) mem1
 clear hb_
 rw [find_right HOK.out]
 by_cases hk : k = 1
 ·
  subst hk
  cases q1 : (nm.toList == ([] : List UInt8))
  ·
   have hne : ¬ nm.toList = [] := beq_eq_false_iff_ne.1 q1
   by_cases hsz : 4096 < nm.size
   ·
    clear hne
    obtain ⟨fi, hfi⟩ : ∃ fi : Int, fi = if isAt l nm (bsOf l nm) = true then (bsOf l nm : Int) else -1 := ⟨_, rfl⟩
    rw [← hfi]
    clear hfi
    have HRV : Aside0 (r = 4) := ⟨by rw [HR0.out, refF]; rw [if_pos rfl, rfC, if_pos (.inr hsz)]⟩
    go_wp2_with fail
    go_ret
    exact ⟨HRV.out.symm ▸ rfl, H.out.below⟩
   ·
    have hno : ¬ (nm.toList = [] ∨ 4096 < nm.size) := fun h => h.elim hne hsz
    clear hne
    cases his : isAt l nm (bsOf l nm)
    ·
     rw [if_neg (by decide)]
     by_cases h64 : 64 ≤ l.length
     ·
      have HRV : Aside0 (r = 8) := ⟨by rw [HR0.out, refF]; rw [if_pos rfl, rfC, if_neg hno, his, if_neg (by decide), if_pos h64]⟩
      go_wp2_with fail
      go_ret
      exact ⟨HRV.out.symm ▸ rfl, H.out.below⟩
     ·
      have HRV : Aside0 (r = 0) := ⟨by rw [HR0.out, refF]; rw [if_pos rfl, rfC, if_neg hno, his, if_neg (by decide), if_neg h64]⟩
      go_wp2_with fail
      go_ret
      exact ⟨HRV.out.symm ▸ rfl, H.out.below⟩
    ·
     rw [if_pos rfl]
     have HRV : Aside0 (r = 6) := ⟨by rw [HR0.out, refF]; rw [if_pos rfl, rfC, if_neg hno, his, if_pos rfl]⟩
     go_wp2_with fail
     go_ret
     exact ⟨HRV.out.symm ▸ rfl, H.out.below⟩
  ·
   have hne : nm.toList = [] := beq_iff_eq.1 q1
   obtain ⟨fi, hfi⟩ : ∃ fi : Int, fi = if isAt l nm (bsOf l nm) = true then (bsOf l nm : Int) else -1 := ⟨_, rfl⟩
   rw [← hfi]
   clear hfi
   have HRV : Aside0 (r = 4) := ⟨by rw [HR0.out, refF]; rw [if_pos rfl, rfC, if_pos (.inl hne)]⟩
   go_wp2_with fail
   go_ret
   exact ⟨HRV.out.symm ▸ rfl, H.out.below⟩
 ·
  cases his : isAt l nm (bsOf l nm)
  ·
   rw [if_neg (by decide)]
   have HRV : Aside0 (r = 7) := ⟨by rw [HR0.out, refF]; rw [if_neg hk, his, if_neg (by decide)]⟩
   go_wp2_with fail
   go_ret
   exact ⟨HRV.out.symm ▸ rfl, H.out.below⟩
  ·
   rw [if_pos rfl]
   obtain ⟨x, hx, hxe⟩ := (isAt_iff _ _ _).1 his
   have hbl := (List.getElem?_eq_some_iff.1 hx).1
   obtain ⟨b, hb⟩ : ∃ b, b = bsOf l nm := ⟨_, rfl⟩
   rw [← hb] at hx hbl
   obtain ⟨ad, e1⟩ : ∃ ad, A = some ad := (at_T43 HRp.out (b : Int) (by omega) (by have := HMX.out; omega)).imp fun _ h => h.1
   subst e1
   obtain ⟨h0, h1, h2⟩ := at43 (H.out.came HRp.out) hx
   have hb0 : (0 : Int) ≤ (b : Int) := by omega
   have hb1 : (b : Int) < (l.length : Int) := by omega
   have hOne := ((right_iff l).1 HOK.out).2.1 x (List.mem_of_getElem? hx)
   have hsz : x.f1.size ≤ 262144 := hOne.2.1
   have HX := Aside0.mk hx
   have HB := Aside0.mk hb
   have HIS := Aside0.mk his
   rw [← hb]
   clear hx hxe hb his hOne
   by_cases h2 : k = 2
   ·
    subst h2
    by_cases hd : 262144 - (x.f1.size : Int) < (dt.size : Int)
    ·
     have HRV : Aside0 (r = 8) := ⟨by rw [HR0.out, refF]; rw [if_neg (by decide), HIS.out, if_pos rfl, if_pos rfl, rfW, if_pos rfl, ← HB.out, rd_get HX.out, if_pos hd]⟩
     go_wp2_with fail
     go_ret
     exact ⟨HRV.out.symm ▸ rfl, H.out.below⟩
    ·
     have HRV : Aside0 (r = 0) := ⟨by rw [HR0.out, refF]; rw [if_neg (by decide), HIS.out, if_pos rfl, if_pos rfl, rfW, if_pos rfl, ← HB.out, rd_get HX.out, if_neg hd]⟩
     go_wp2_with fail
     go_ret
     exact ⟨HRV.out.symm ▸ rfl, H.out.below⟩
   ·
    by_cases h4 : k = 4
    ·
     subst h4
     by_cases hn0 : n < 0
     ·
      have HRV : Aside0 (r = 2) := ⟨by rw [HR0.out, refF]; rw [if_neg (by decide), HIS.out, if_pos rfl, if_neg (by decide), if_pos rfl, rfT, if_pos rfl, ← HB.out, rd_get HX.out, if_pos (by omega)]⟩
      go_wp2_with fail
      go_ret
      exact ⟨HRV.out.symm ▸ rfl, H.out.below⟩
     ·
      by_cases hn1 : (x.f1.size : Int) < n
      ·
       have HRV : Aside0 (r = 2) := ⟨by rw [HR0.out, refF]; rw [if_neg (by decide), HIS.out, if_pos rfl, if_neg (by decide), if_pos rfl, rfT, if_pos rfl, ← HB.out, rd_get HX.out, if_pos (by omega)]⟩
       go_wp2_with fail
       go_ret
       exact ⟨HRV.out.symm ▸ rfl, H.out.below⟩
      ·
       have HRV : Aside0 (r = 0) := ⟨by rw [HR0.out, refF]; rw [if_neg (by decide), HIS.out, if_pos rfl, if_neg (by decide), if_pos rfl, rfT, if_pos rfl, ← HB.out, rd_get HX.out, if_neg (by omega)]⟩
       go_wp2_with fail
       go_ret
       exact ⟨HRV.out.symm ▸ rfl, H.out.below⟩
    ·
     have HRV : Aside0 (r = 0) := ⟨by rw [HR0.out, refF]; rw [if_neg hk, HIS.out, if_pos rfl, if_neg h2, if_neg h4]⟩
     go_wp2_with fail
     go_ret
     exact ⟨HRV.out.symm ▸ rfl, H.out.below⟩
end Go.Proofs.Ytanonhipicoigaa.T

namespace Go.Proofs.Ytanonhipicoigaa.T
open Go.RowKit Go.Proofs.YtanonhipicoigaaW.PrintWords Go.Proofs.YtanonhipicoigaaW.PrintLast Go.Proofs.YtanonhipicoigaaW.PrintMore Go.Proofs.Ytanonhipicoigaa.Sp
set_option linter.unusedVariables false
set_option linter.unusedSimpArgs false
set_option maxHeartbeats 8000000 in
set_option maxRecDepth 100000 in
theorem rRead.calls (A : Option Addr) (c : Nat) (l : List S43) (dn : Bool) (fu fa : Int) (nm : ByteArray) (w : World) (hr : Kd.C k43 w A l.length l) (hc : l.length ≤ c) :
  Calls Try.prog 21 #[.agg #[.slice A l.length c, .bool dn, .int .i64 fu, .int .i64 fa], .string nm] w fun e w' => e = .returned (.tuple #[.string (readF l dn nm).1, .int .i64 (readF l dn nm).2]) ∧ Below w.heap.size w w' := by
 obtain ⟨r1, hr1⟩ : ∃ r, r = (readF l dn nm).1 := ⟨_, rfl⟩
 obtain ⟨r2, hr2⟩ : ∃ r, r = (readF l dn nm).2 := ⟨_, rfl⟩
 rw [← hr1, ← hr2]
 have HR1 := Aside0.mk hr1
 have HR2 := Aside0.mk hr2
 clear hr1 hr2
 have HRp := Aside0.mk hr
 have HCp := Aside0.mk hc
 have HMX := Aside0.mk (Kd.C_max hr)
 clear hr hc
 have H := Aside0.mk (Sep.start w)
 go_enter Try.func21, Try.ntmps21
 go_wp2_with (first
 | ((with_reducible refine gate_dst (N := 2) rfl ?_);
    refine new_box rfl H (cs := [.slice A l.length c, .bool dn, .int .i64 fu, .int .i64 fa]) (t := 24) ?hr ?_;
    (case hr => first | (go_simp; done) | (go_simp; rfl));
    intro gd wd22 n_;
    simp only [Act.put, List.setIfInBounds_toArray, List.set_cons_zero, List.set_cons_succ];
    clear H;
    have H := n_;
    clear n_;
    have c_d := H.out.cell (g := gd) mem0)
 | fail)
 refine ((rCheck.calls A c l dn fu fa _ (H.out.came HRp.out) HCp.out).mono ?_)
 rintro e wd23 ⟨rfl, hb_⟩
 have n_ : Aside0 (Sep w wd23 [box gd [.slice A l.length c, .bool dn, .int .i64 fu, .int .i64 fa] 24]) := ⟨H.out.step hb_⟩
 clear H c_d
 have H := n_
 clear n_
 have c_d := H.out.cell (g := gd) mem0
 clear hb_
 by_cases hok : rightF l = true
 ·
  rw [if_pos hok]
  have HOK := Aside0.mk hok
  have hmax : l.length ≤ 64 := right_len hok
  clear hok
  go_wp2_with fail
  refine ((penstockref09_find.calls (l.length + 1) A c l dn fu fa nm (findN nm l 0) _ (H.out.came HRp.out) HCp.out (find_eq l dn fu fa nm HMX.out)).mono ?_)
  rintro e wd24 ⟨rfl, hb_⟩
  have n_ : Aside0 (Sep w wd24 [box gd [.slice A l.length c, .bool dn, .int .i64 fu, .int .i64 fa] 24]) := ⟨H.out.step hb_⟩
  clear H c_d
  have H := n_
  clear n_
  have c_d := H.out.cell (g := gd) mem0
  clear hb_
  rw [find_right HOK.out]
  cases dn
  ·
   cases his : isAt l nm (bsOf l nm)
   ·
    rw [if_neg (by decide)]
    have HV1 : Aside0 (r1 = ⟨#[]⟩) := ⟨by rw [HR1.out, readF]; simp [HOK.out, getF, his]⟩
    have HV2 : Aside0 (r2 = 7) := ⟨by rw [HR2.out, readF]; simp [HOK.out, getF, his]⟩
    clear HR1 HR2
    go_wp2_with fail
    go_ret2
    exact ⟨HV1.out.symm ▸ HV2.out.symm ▸ rfl, H.out.below⟩
   ·
    rw [if_pos rfl]
    obtain ⟨x, hx, hxe⟩ := (isAt_iff _ _ _).1 his
    have hbl := (List.getElem?_eq_some_iff.1 hx).1
    obtain ⟨b, hb⟩ : ∃ b, b = bsOf l nm := ⟨_, rfl⟩
    rw [← hb] at hx hbl
    obtain ⟨ad, e1⟩ : ∃ ad, A = some ad := (at_T43 HRp.out (b : Int) (by omega) (by have := HMX.out; omega)).imp fun _ h => h.1
    subst e1
    obtain ⟨h0, h1, h2⟩ := at43 (H.out.came HRp.out) hx
    have hb0 : (0 : Int) ≤ (b : Int) := by omega
    have hb1 : (b : Int) < (l.length : Int) := by omega
    have HX := Aside0.mk hx
    have HB := Aside0.mk hb
    have HIS := Aside0.mk his
    rw [← hb]
    clear hx hxe hb his
    have HV1 : Aside0 (r1 = x.f1) := ⟨by rw [HR1.out, readF]; rw [if_pos HOK.out, if_neg (by decide), getF, if_pos HIS.out, ← HB.out, HX.out]⟩
    have HV2 : Aside0 (r2 = 0) := ⟨by rw [HR2.out, readF]; rw [if_pos HOK.out, if_neg (by decide), getF, if_pos HIS.out, ← HB.out, HX.out]⟩
    clear HR1 HR2
    go_wp2_with fail
    go_ret2
    exact ⟨HV1.out.symm ▸ HV2.out.symm ▸ rfl, H.out.below⟩
  ·
   obtain ⟨fi, hfi⟩ : ∃ fi : Int, fi = if isAt l nm (bsOf l nm) = true then (bsOf l nm : Int) else -1 := ⟨_, rfl⟩
   rw [← hfi]
   clear hfi
   have HV1 : Aside0 (r1 = ⟨#[]⟩) := ⟨by rw [HR1.out, readF]; simp [HOK.out]⟩
   have HV2 : Aside0 (r2 = 17) := ⟨by rw [HR2.out, readF]; simp [HOK.out]⟩
   clear HR1 HR2
   go_wp2_with fail
   go_ret2
   exact ⟨HV1.out.symm ▸ HV2.out.symm ▸ rfl, H.out.below⟩
 ·
  rw [if_neg hok]
  go_wp2_with fail
  refine ((penstockref09_find.calls (l.length + 1) A c l dn fu fa nm (findN nm l 0) _ (H.out.came HRp.out) HCp.out (find_eq l dn fu fa nm HMX.out)).mono ?_)
  rintro e wd25 ⟨rfl, hb_⟩
  have n_ : Aside0 (Sep w wd25 [box gd [.slice A l.length c, .bool dn, .int .i64 fu, .int .i64 fa] 24]) := ⟨H.out.step hb_⟩
  clear H c_d
  have H := n_
  clear n_
  have c_d := H.out.cell (g := gd) mem0
  clear hb_
  obtain ⟨fi, hfi⟩ : ∃ fi : Int, fi = findN nm l 0 := ⟨_, rfl⟩
  rw [← hfi]
  clear hfi
  have HV1 : Aside0 (r1 = ⟨#[]⟩) := ⟨by rw [HR1.out, readF]; simp [hok]⟩
  have HV2 : Aside0 (r2 = 6) := ⟨by rw [HR2.out, readF]; simp [hok]⟩
  clear HR1 HR2
  go_wp2_with fail
  go_ret2
  exact ⟨HV1.out.symm ▸ HV2.out.symm ▸ rfl, H.out.below⟩
set_option maxHeartbeats 8000000 in
set_option maxRecDepth 100000 in
theorem rNames.calls (A : Option Addr) (c : Nat) (l : List S43) (dn : Bool) (fu fa : Int) (w : World) (hr : Kd.C k43 w A l.length l) (hc : l.length ≤ c) :
  Calls Try.prog 23 #[.agg #[.slice A l.length c, .bool dn, .int .i64 fu, .int .i64 fa]] w fun e w' => ∃ v_ : Value, e = .returned (.tuple #[v_, .int .i64 (nameF l dn).2]) ∧ Kd.R Kd.string 9 w' w.heap.size (fun _ => True) v_ (nameF l dn).1 ∧ Below w.heap.size w w' := by
 obtain ⟨r1, hr1⟩ : ∃ r, r = (nameF l dn).1 := ⟨_, rfl⟩
 obtain ⟨r2, hr2⟩ : ∃ r, r = (nameF l dn).2 := ⟨_, rfl⟩
 rw [← hr1, ← hr2]
 have HR1 := Aside0.mk hr1
 have HR2 := Aside0.mk hr2
 clear hr1 hr2
 have HRp := Aside0.mk hr
 have HCp := Aside0.mk hc
 have HMX := Aside0.mk (Kd.C_max hr)
 clear hr hc
 have H := Aside0.mk (Sep.start w)
 go_enter Try.func23, Try.ntmps23
 go_wp2_with (first
 | ((with_reducible refine gate_dst (N := 1) rfl ?_);
    refine new_box rfl H (cs := [.slice A l.length c, .bool dn, .int .i64 fu, .int .i64 fa]) (t := 24) ?hr ?_;
    (case hr => first | (go_simp; done) | (go_simp; rfl));
    intro gd wd26 n_;
    simp only [Act.put, List.setIfInBounds_toArray, List.set_cons_zero, List.set_cons_succ];
    clear H;
    have H := n_;
    clear n_;
    have c_d := H.out.cell (g := gd) mem0)
 | fail)
 refine ((rCheck.calls A c l dn fu fa _ (H.out.came HRp.out) HCp.out).mono ?_)
 rintro e wd27 ⟨rfl, hb_⟩
 have n_ : Aside0 (Sep w wd27 [box gd [.slice A l.length c, .bool dn, .int .i64 fu, .int .i64 fa] 24]) := ⟨H.out.step hb_⟩
 clear H c_d
 have H := n_
 clear n_
 have c_d := H.out.cell (g := gd) mem0
 clear hb_
 by_cases hok : rightF l = true
 ·
  rw [if_pos hok]
  have HOK := Aside0.mk hok
  have hmax : l.length ≤ 64 := right_len hok
  clear hok
  cases dn
  ·
   have HV1 : Aside0 (r1 = l.map (·.f0)) := ⟨by rw [HR1.out, nameF]; simp [HOK.out]⟩
   have HV2 : Aside0 (r2 = 0) := ⟨by rw [HR2.out, nameF]; simp [HOK.out]⟩
   clear HR1 HR2
   go_wp2_with fail
   go_loopw [5, 22] (fun v5 v22 wr => ∃ (i : Nat) (o : List ByteArray) (Ao : Option Addr) (co : Nat), v5 = .slice Ao (o).length co ∧ v22 = .int .i64 (i : Int) ∧ i ≤ l.length ∧ Aside0 (o = (l.take i).map (·.f0)) ∧ Aside0 (Sep w wr [box gd [.slice A l.length c, .bool false, .int .i64 fu, .int .i64 fa] 24, row Kd.string 9 (.slice Ao (o).length co) o]))
    (fun _ v22 _ => l.length - (intOf v22).toNat)
   case atStart => exact ⟨0, [], none, 0, rfl, rfl, by omega, ⟨rfl⟩, ⟨(Sep.push_nil H.out).perm (List.Perm.swap _ _ _)⟩⟩
   case round =>
    clear H c_d
    obtain ⟨i, o, Ao, co, rfl, rfl, hi, HO, H⟩ := hrel
    have c_d := H.out.cell (g := gd) mem0
    by_cases hil : i < l.length
    ·
     obtain ⟨x, hx⟩ : ∃ x, l[i]? = some x := ⟨_, List.getElem?_eq_getElem hil⟩
     obtain ⟨ad, e1⟩ : ∃ ad, A = some ad := (at_T43 HRp.out (i : Int) (by omega) (by omega)).imp fun _ h => h.1
     subst e1
     obtain ⟨h0, h1, h2⟩ := at43 (H.out.came HRp.out) hx
     have HX := Aside0.mk hx
     clear hx
     have hi0 : (0 : Int) ≤ (i : Int) := by omega
     have hi1 : (i : Int) < (l.length : Int) := by omega
     have HOL : Aside0 (o.length = i) := ⟨by rw [HO.out]; simp; omega⟩
     go_wp2_with (first
 | ((with_reducible refine gate_dst (N := 7) rfl ?_);
    refine new_box rfl H (cs := [.string ⟨#[]⟩, .string ⟨#[]⟩, .int .i64 0]) (t := 43) ?hr ?_;
    (case hr => first | (go_simp; done) | (go_simp; rfl));
    intro gf wd28 n_;
    simp only [Act.put, List.setIfInBounds_toArray, List.set_cons_zero, List.set_cons_succ];
    clear H c_d;
    have H := n_;
    clear n_;
    have c_f := H.out.cell (g := gf) mem0;
    have z_f := H.out.frozen (g := gf) mem0;
    have c_d := H.out.cell (g := gd) mem1)
 | ((with_reducible refine gate_store (t := 43) (p := 7) rfl ?_);
    refine put_box (rs1 := [box gf [.string x.f0, .string x.f1, .int .i64 x.f2] 43, box gd [.slice (some ad) l.length c, .bool false, .int .i64 fu, .int .i64 fa] 24, row Kd.string 9 (.slice Ao (o).length co) o]) rfl (t := 43) (p := 7) rfl rfl ?hr (H1 := (Sep.set0 (Sep.set0 (Sep.set0 H.out 0 (.string x.f0) rfl) 1 (.string x.f1) rfl) 2 (.int .i64 x.f2) rfl)) ?_;
    (case hr => first | (go_simp; done) | (go_simp; rfl));
    intro wd29 n_;
    clear H c_f z_f c_d;
    have H := n_;
    clear n_;
    have c_f := H.out.cell (g := gf) mem0;
    have z_f := H.out.frozen (g := gf) mem0;
    have c_d := H.out.cell (g := gd) mem1;
    clear h0 h1 h2)
 | ((with_reducible refine gate_builtin (b := .append) (xs := #[.tmp 26, .tmp 29]) rfl ?_); at_builtin;
    refine app_row2 Kd.string flat_string rfl (.tmp 26) (.tmp 29) 50 9 (.string ⟨#[]⟩) 16 rfl Try.underlying50 info9 rfl (by decide) (by omega) (.slice Ao (o).length co) _ x.f0 [.string x.f0] ?hs ?hx ?hp H ?hl ?_;
    (case hs => first | rfl | (go_simp; done) | (simp; rfl));
    (case hx => first | (go_simp; done) | (go_simp; rfl));
    (case hp => exact rfl);
    (case hl => (have := HOL.out; (try simp only [List.length_append, List.length_cons, List.length_nil]); omega));
    intro Ao2 co2 wd30 n_;
    clear H c_f z_f c_d;
    have H := n_;
    clear n_;
    have c_f := H.out.cell (g := gf) mem0;
    have z_f := H.out.frozen (g := gf) mem0;
    have c_d := H.out.cell (g := gd) mem1)
 | fail)
     refine ⟨⟨i + 1, o ++ [x.f0], Ao2, co2, by simp, by congr 1, by omega, ⟨?_⟩, ⟨?_⟩⟩, by simp [intOf]; omega⟩
     ·
      rw [HO.out, List.take_add_one, HX.out]
      simp
     ·
      exact (Sep.drop0 H.out)
    ·
     go_wp2_with fail
     go_ret2
     have e1 : r1 = o := by rw [HV1.out, HO.out, List.take_of_length_le (by omega)]
     have e2 := HV2.out
     subst e1 e2
     exact ⟨_, rfl, sep_own H.out mem1 string_flat2, H.out.below⟩
  ·
   have HV1 : Aside0 (r1 = []) := ⟨by rw [HR1.out, nameF]; simp [HOK.out]⟩
   have HV2 : Aside0 (r2 = 17) := ⟨by rw [HR2.out, nameF]; simp [HOK.out]⟩
   clear HR1 HR2
   go_wp2_with fail
   go_ret2
   have e1 := HV1.out
   have e2 := HV2.out
   subst e1 e2
   exact ⟨_, rfl, Kd.R_nil _ _ _ _ _, H.out.below⟩
 ·
  rw [if_neg hok]
  have HV1 : Aside0 (r1 = []) := ⟨by rw [HR1.out, nameF]; simp [hok]⟩
  have HV2 : Aside0 (r2 = 6) := ⟨by rw [HR2.out, nameF]; simp [hok]⟩
  clear HR1 HR2
  go_wp2_with fail
  go_ret2
  have e1 := HV1.out
  have e2 := HV2.out
  subst e1 e2
  exact ⟨_, rfl, Kd.R_nil _ _ _ _ _, H.out.below⟩

end Go.Proofs.Ytanonhipicoigaa.T
