import Derived.Test.YtanonhipicoigaaL0
import Derived.Test.YtanonhipicoigaaTx4
namespace Go.Proofs.Ytanonhipicoigaa.T
open Go.RowKit Go.Proofs.YtanonhipicoigaaW.PrintWords Go.Proofs.YtanonhipicoigaaW.PrintLast Go.Proofs.YtanonhipicoigaaW.PrintMore
set_option linter.unusedVariables false
set_option linter.unusedSimpArgs false

/-! ### What the disk answers, in plain words -/
theorem disk_Read_eq (l : List S43) (dn : Bool) (fu fa : Int) (s : ByteArray) : disk_Read.f l dn fu fa s = some ((readF l dn s).1, (readF l dn s).2) := by
  unfold disk_Read.f disk_asked.f disk_Check.f readF
  by_cases h : rightF l = true
  · simp only [if_pos h, Option.bind_some]
    cases dn
    · simp only [if_true, Bool.false_eq_true, if_false, disk_place.f, if_pos (right_len h), Option.bind_some]
      unfold getF
      by_cases hi : isAt l s (bsOf l s) = true
      · obtain ⟨x, hx, _⟩ := (isAt_iff _ _ _).1 hi
        have hlt := (List.getElem?_eq_some_iff.1 hx).1
        rw [if_pos hi, if_pos hi, hx, if_pos (by omega), if_pos (by omega), rd_get hx]
      · rw [if_neg hi, if_neg hi]
    · simp
  · simp only [if_neg h, Option.bind_some]
    simp
theorem small {l : List S43} (h : rightF l = true) : l.length < 3518437208883 := by have := right_len h; omega
def appendF (l : List S43) (dn : Bool) (fu fa : Int) (s d : ByteArray) : List S43 × Bool × Int × Int × Int := changedF l dn fu fa s true (rfW d l) (fun i => l.set i.toNat ⟨(rd_T43 l i).f0, (rd_T43 l i).f1 ++ d, (rd_T43 l i).f2⟩)
def cutF (l : List S43) (dn : Bool) (fu fa : Int) (s : ByteArray) (n : Int) : List S43 × Bool × Int × Int × Int := changedF l dn fu fa s false (rfT n l) (fun i => l.set i.toNat ⟨(rd_T43 l i).f0, (rd_T43 l i).f1.extract 0 n.toNat, n⟩)
def removeF (l : List S43) (dn : Bool) (fu fa : Int) (s : ByteArray) : List S43 × Bool × Int × Int × Int := changedF l dn fu fa s false (fun _ b => if b = true then 0 else 7) (fun i => l.take i.toNat ++ l.drop (i.toNat + 1))
def syncF (l : List S43) (dn : Bool) (fu fa : Int) (s : ByteArray) : List S43 × Bool × Int × Int × Int := changedF l dn fu fa s false (fun _ b => if b = true then 0 else 7) (fun i => l.set i.toNat ⟨(rd_T43 l i).f0, (rd_T43 l i).f1, ((rd_T43 l i).f1.size : Int)⟩)
def createF (l : List S43) (dn : Bool) (fu fa : Int) (s : ByteArray) : List S43 × Bool × Int × Int × Int := changedF l dn fu fa s false (rfC s l.length) (fun i => l.take i.toNat ++ [(⟨s, ⟨#[]⟩, 0⟩ : S43)] ++ l.drop i.toNat)
theorem disk_Append_eq (l : List S43) (dn : Bool) (fu fa : Int) (s d : ByteArray) : disk_Append.f l dn fu fa s d = some (appendF l dn fu fa s d) := rfl
theorem disk_Cut_eq (l : List S43) (dn : Bool) (fu fa : Int) (s : ByteArray) (n : Int) : disk_Cut.f l dn fu fa s n = some (cutF l dn fu fa s n) := rfl
theorem disk_Remove_eq (l : List S43) (dn : Bool) (fu fa : Int) (s : ByteArray) : disk_Remove.f l dn fu fa s = some (removeF l dn fu fa s) := rfl
theorem disk_Sync_eq (l : List S43) (dn : Bool) (fu fa : Int) (s : ByteArray) : disk_Sync.f l dn fu fa s = some (syncF l dn fu fa s) := rfl
theorem disk_Create_eq (l : List S43) (dn : Bool) (fu fa : Int) (s : ByteArray) : disk_Create.f l dn fu fa s = some (createF l dn fu fa s) := rfl
theorem changed_whole {l : List S43} (h : rightF l = true) (s : ByteArray) (wr : Bool) (rf : Int → Bool → Int) (df : Int → List S43) :
    changedF l false (-1) (-1) s wr rf df = if rf (bsOf l s) (isAt l s (bsOf l s)) = 0 then (df (bsOf l s), false, -1, -1, 0) else (l, false, -1, -1, rf (bsOf l s) (isAt l s (bsOf l s))) := by
  simp [changedF, h]
theorem read_zero {l : List S43} {dn : Bool} {s was : ByteArray} (h : readF l dn s = (was, 0)) : rightF l = true ∧ dn = false ∧ ∃ x, l[bsOf l s]? = some x ∧ isAt l s (bsOf l s) = true ∧ x.f0.toList = s.toList ∧ was = x.f1 := by
  unfold readF at h
  split at h
  · rename_i hr
    split at h
    · cases h
    · rename_i hd
      refine ⟨hr, by simpa using hd, ?_⟩
      split at h
      · rename_i x hx
        injection h with h1 h2
        unfold getF at hx
        split at hx
        · rename_i hi
          exact ⟨x, hx, hi, ((getF_iff hr s x).1 (by unfold getF; rw [if_pos hi]; exact hx)).2, h1.symm⟩
        · cases hx
      · cases h
  · cases h
theorem read_other {l : List S43} {dn : Bool} {s was : ByteArray} {w : Int} (h : readF l dn s = (was, w)) (hw : w ≠ 0) (d : ByteArray) : (appendF l dn (-1) (-1) s d).2.2.2.2 ≠ 0 := by
  unfold readF at h
  split at h
  · rename_i hr
    split at h
    · rename_i hd
      simp [appendF, changedF, hr, hd]
    · rename_i hd
      have hd : dn = false := by simpa using hd
      subst hd
      split at h
      · injection h with h1 h2
        exact absurd h2.symm hw
      · rename_i hn
        have hi : isAt l s (bsOf l s) = false := by
          cases e : isAt l s (bsOf l s) with
          | false => rfl
          | true =>
            obtain ⟨x, hx, _⟩ := (isAt_iff _ _ _).1 e
            rw [getF, if_pos e, hx] at hn
            cases hn
        simp [appendF, changed_whole hr, rfW, hi]
  · rename_i hr
    simp [appendF, changedF, hr]
theorem at_read {l : List S43} {s : ByteArray} (h : rightF l = true) {x : S43} (hx : x ∈ l) (e : x.f0.toList = s.toList) : readF l false s = (x.f1, 0) := by
  rw [readF, if_pos h, if_neg (by simp), (getF_iff h s x).2 ⟨hx, e⟩]
theorem none_read {l : List S43} {s : ByteArray} (h : rightF l = true) (e : ∀ x ∈ l, x.f0.toList ≠ s.toList) : readF l false s = ((⟨#[]⟩ : ByteArray), 7) := by
  rw [readF, if_pos h, if_neg (by simp), (getF_none h s).2 e]
theorem append_at {l : List S43} {s : ByteArray} {x : S43} (h : rightF l = true) (hx : l[bsOf l s]? = some x) (hi : isAt l s (bsOf l s) = true) (e : x.f0.toList = s.toList) (d : ByteArray) : (∃ l2, appendF l false (-1) (-1) s d = (l2, false, -1, -1, 0) ∧ readF l2 false s = (x.f1 ++ d, 0) ∧ x.f1.size + d.size ≤ 262144) ∨ ∃ l2, appendF l false (-1) (-1) s d = (l2, false, -1, -1, 8) := by
  rw [appendF, changed_whole h]
  by_cases hs : 262144 - (x.f1.size : Int) < (d.size : Int)
  · right
    rw [if_neg (by simp [rfW, hi, rd_get hx, hs])]
    exact ⟨l, by simp [rfW, hi, rd_get hx, hs]⟩
  · left
    rw [if_pos (by simp [rfW, hi, rd_get hx]; omega)]
    refine ⟨_, rfl, ?_, by omega⟩
    have hok := right_get h hx
    simp only [Int.toNat_natCast, rd_get hx]
    have hy : OkOne ⟨x.f0, x.f1 ++ d, x.f2⟩ := by
      refine ⟨hok.1, ?_, hok.2.2.1, ?_⟩
      · simp only [ByteArray.size_append]; omega
      · simp only [ByteArray.size_append]; have := hok.2.2.2; omega
    exact at_read (right_set (y := ⟨x.f0, x.f1 ++ d, x.f2⟩) h hx rfl hy) (mem_set_self hx) e
theorem cut_at {l : List S43} {s : ByteArray} {x : S43} (h : rightF l = true) (hx : l[bsOf l s]? = some x) (hi : isAt l s (bsOf l s) = true) (e : x.f0.toList = s.toList) (n : Int) (h0 : 0 ≤ n) (h1 : n ≤ (x.f1.size : Int)) : ∃ l2, cutF l false (-1) (-1) s n = (l2, false, -1, -1, 0) ∧ readF l2 false s = (x.f1.extract 0 n.toNat, 0) := by
  rw [cutF, changed_whole h, if_pos (by simp [rfT, hi, rd_get hx]; omega)]
  refine ⟨_, rfl, ?_⟩
  have hok := right_get h hx
  simp only [Int.toNat_natCast, rd_get hx]
  have hy : OkOne ⟨x.f0, x.f1.extract 0 n.toNat, n⟩ := by
    refine ⟨hok.1, ?_, h0, ?_⟩
    · simp only [ByteArray.size_extract]; omega
    · simp only [ByteArray.size_extract]; omega
  exact at_read (right_set (y := ⟨x.f0, x.f1.extract 0 n.toNat, n⟩) h hx rfl hy) (mem_set_self hx) e
theorem cut_not {l : List S43} {s : ByteArray} {x : S43} (h : rightF l = true) (hx : l[bsOf l s]? = some x) (hi : isAt l s (bsOf l s) = true) (e : x.f0.toList = s.toList) (n : Int) (hn : n < 0 ∨ (x.f1.size : Int) < n) : ∃ l2, cutF l false (-1) (-1) s n = (l2, false, -1, -1, 2) := by
  rw [cutF, changed_whole h, if_neg (by simp [rfT, hi, rd_get hx, hn])]
  exact ⟨l, by simp [rfT, hi, rd_get hx, hn]⟩
theorem remove_at {l : List S43} {s : ByteArray} {x : S43} (h : rightF l = true) (hx : l[bsOf l s]? = some x) (hi : isAt l s (bsOf l s) = true) (e : x.f0.toList = s.toList) : ∃ l2, removeF l false (-1) (-1) s = (l2, false, -1, -1, 0) ∧ readF l2 false s = ((⟨#[]⟩ : ByteArray), 7) := by
  rw [removeF, changed_whole h, if_pos (by simp [hi])]
  refine ⟨_, rfl, none_read (right_cut h _) ?_⟩
  intro y hy
  have := (mem_cut h hx).1 hy
  rw [e] at this
  exact this.2
end Go.Proofs.Ytanonhipicoigaa.T
