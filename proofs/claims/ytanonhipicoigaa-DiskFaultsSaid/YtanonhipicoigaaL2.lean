import Derived.Test.YtanonhipicoigaaL1
import Derived.Test.YtanonhipicoigaaTx8
namespace Go.Proofs.Ytanonhipicoigaa.T
open Go.RowKit Go.Proofs.YtanonhipicoigaaW.PrintWords Go.Proofs.YtanonhipicoigaaW.PrintLast Go.Proofs.YtanonhipicoigaaW.PrintMore
set_option linter.unusedVariables false
set_option linter.unusedSimpArgs false

/-! ### Steps in plain words -/
def doF (l : List S43) (dn : Bool) (fu fa k : Int) (s d : ByteArray) (n : Int) : List S43 × Bool × Int × Int × Int :=
  if k = 1 then createF l dn fu fa s else if k = 2 then appendF l dn fu fa s d else if k = 3 then syncF l dn fu fa s else if k = 4 then cutF l dn fu fa s n else if k = 5 then removeF l dn fu fa s
  else if rightF l = true then (l, dn, fu, fa, 5) else ([], false, 0, 0, 6)
theorem disk_Do_eq (l : List S43) (dn : Bool) (fu fa k : Int) (s d : ByteArray) (n : Int) : disk_Do.f l dn fu fa k s d n = some (doF l dn fu fa k s d n) := by
  unfold disk_Do.f doF
  simp only [disk_Create_eq, disk_Append_eq, disk_Sync_eq, disk_Cut_eq, disk_Remove_eq, Option.bind_some]
  split
  · rfl
  split
  · rfl
  split
  · rfl
  split
  · rfl
  split
  · rfl
  unfold disk_Check.f
  by_cases h : rightF l = true
  · rw [if_pos h, if_pos h]
    simp [api_File.f, small h]
  · rw [if_neg h, if_neg h]
    simp
/-- A change keeps a disk right and touches one name. -/
def Good (l : List S43) (s : ByteArray) (l' : List S43) : Prop := rightF l' = true ∧ ∀ x : S43, x.f0.toList ≠ s.toList → (x ∈ l' ↔ x ∈ l)
theorem good_set {l : List S43} (h : rightF l = true) {s : ByteArray} {x y : S43} (hx : l[bsOf l s]? = some x) (e : x.f0.toList = s.toList) (hn : y.f0 = x.f0) (hy : OkOne y) : Good l s (l.set (bsOf l s) y) :=
  ⟨right_set h hx hn hy, fun z hz => mem_set h hx hn (by rw [e]; exact hz)⟩
theorem good_create {l : List S43} {s : ByteArray} (h : rightF l = true) (hrf : rfC s l.length (bsOf l s) (isAt l s (bsOf l s)) = 0) : Good l s (l.take (bsOf l s) ++ [(⟨s, ⟨#[]⟩, 0⟩ : S43)] ++ l.drop (bsOf l s)) := by
  unfold rfC at hrf
  split at hrf
  · cases hrf
  rename_i h1
  split at hrf
  · cases hrf
  rename_i h2
  split at hrf
  · cases hrf
  rename_i h3
  simp only [not_or] at h1
  refine ⟨right_new h (by simpa using h2) ⟨show s.size ≤ 4096 by omega, show (⟨#[]⟩ : ByteArray).size ≤ 262144 by decide, show (0 : Int) ≤ 0 by decide, show (0 : Int) ≤ ((⟨#[]⟩ : ByteArray).size : Int) by decide⟩ rfl h1.1 (by omega), fun x hx => ?_⟩
  rw [mem_new]
  constructor
  · rintro (rfl | g)
    · exact absurd rfl hx
    · exact g
  · exact .inr
theorem at_of {l : List S43} {s : ByteArray} (h : rightF l = true) (hi : isAt l s (bsOf l s) = true) : ∃ x, l[bsOf l s]? = some x ∧ x.f0.toList = s.toList := (isAt_iff _ _ _).1 hi
theorem good_append {l : List S43} {s : ByteArray} (h : rightF l = true) (d : ByteArray) (hrf : rfW d l (bsOf l s) (isAt l s (bsOf l s)) = 0) : Good l s (l.set (bsOf l s : Int).toNat ⟨(rd_T43 l (bsOf l s)).f0, (rd_T43 l (bsOf l s)).f1 ++ d, (rd_T43 l (bsOf l s)).f2⟩) := by
  unfold rfW at hrf
  split at hrf
  · rename_i hi
    obtain ⟨x, hx, e⟩ := at_of h hi
    rw [rd_get hx] at hrf
    split at hrf
    · cases hrf
    rename_i hs
    simp only [Int.toNat_natCast, rd_get hx]
    have hok := right_get h hx
    exact good_set h hx e rfl ⟨hok.1, by simp only [ByteArray.size_append]; omega, hok.2.2.1, by simp only [ByteArray.size_append]; have := hok.2.2.2; omega⟩
  · cases hrf
theorem good_sync {l : List S43} {s : ByteArray} (h : rightF l = true) (hi : isAt l s (bsOf l s) = true) : Good l s (l.set (bsOf l s : Int).toNat ⟨(rd_T43 l (bsOf l s)).f0, (rd_T43 l (bsOf l s)).f1, ((rd_T43 l (bsOf l s)).f1.size : Int)⟩) := by
  obtain ⟨x, hx, e⟩ := at_of h hi
  simp only [Int.toNat_natCast, rd_get hx]
  have hok := right_get h hx
  exact good_set h hx e rfl ⟨hok.1, hok.2.1, by simp, Int.le_refl _⟩
theorem good_cut {l : List S43} {s : ByteArray} (h : rightF l = true) (n : Int) (hrf : rfT n l (bsOf l s) (isAt l s (bsOf l s)) = 0) : Good l s (l.set (bsOf l s : Int).toNat ⟨(rd_T43 l (bsOf l s)).f0, (rd_T43 l (bsOf l s)).f1.extract 0 n.toNat, n⟩) := by
  unfold rfT at hrf
  split at hrf
  · rename_i hi
    obtain ⟨x, hx, e⟩ := at_of h hi
    rw [rd_get hx] at hrf
    split at hrf
    · cases hrf
    rename_i hs
    simp only [Int.toNat_natCast, rd_get hx]
    have hok := right_get h hx
    refine good_set h hx e rfl ⟨hok.1, ?_, show 0 ≤ n by omega, ?_⟩
    · simp only [ByteArray.size_extract]; omega
    · simp only [ByteArray.size_extract]; omega
  · cases hrf
theorem good_remove {l : List S43} {s : ByteArray} (h : rightF l = true) (hi : isAt l s (bsOf l s) = true) : Good l s (l.take (bsOf l s : Int).toNat ++ l.drop ((bsOf l s : Int).toNat + 1)) := by
  obtain ⟨x, hx, e⟩ := at_of h hi
  simp only [Int.toNat_natCast]
  refine ⟨right_cut h _, fun z hz => ?_⟩
  rw [mem_cut h hx, e]
  exact ⟨fun g => g.1, fun g => ⟨g, hz⟩⟩
/-- What a change can come to. -/
inductive Came (l : List S43) (dn : Bool) (fu fa : Int) (s : ByteArray) (k : Int) : List S43 × Bool × Int × Int × Int → Prop
  | wrong : rightF l = false → Came l dn fu fa s k ([], false, 0, 0, 6)
  | down : rightF l = true → dn = true → Came l dn fu fa s k (l, dn, fu, fa, 17)
  | refused (e : Int) : rightF l = true → e ≠ 0 → e ≠ 17 → e ≠ 18 → Came l dn fu fa s k (l, dn, fu, fa, e)
  | fault : rightF l = true → dn = false → fa = 0 → Came l dn fu fa s k (l, dn, fu, -1, 18)
  | fuse (l' : List S43) (fa' : Int) : rightF l = true → dn = false → fa ≠ 0 → fu = 0 → (k ≠ 2 → l' = l) → Good l s l' → fa' = (if 0 < fa then wrap64 (fa - 1) else fa) → Came l dn fu fa s k (l', true, fu, fa', 17)
  | done (l' : List S43) (fu' fa' : Int) : rightF l = true → dn = false → fa ≠ 0 → fu ≠ 0 → Good l s l' → fu' = (if 0 < fu then wrap64 (fu - 1) else fu) → fa' = (if 0 < fa then wrap64 (fa - 1) else fa) → Came l dn fu fa s k (l', dn, fu', fa', 0)
theorem good_refl {l : List S43} (h : rightF l = true) (s : ByteArray) : Good l s l := ⟨h, fun _ _ => Iff.rfl⟩
theorem came_changed {l : List S43} {dn : Bool} {fu fa : Int} {s : ByteArray} {k : Int} {wr : Bool} {rf : Int → Bool → Int} {df : Int → List S43}
    (hw : wr = true → k = 2) (hrf : rf (bsOf l s) (isAt l s (bsOf l s)) ≠ 17 ∧ rf (bsOf l s) (isAt l s (bsOf l s)) ≠ 18)
    (hg : rightF l = true → rf (bsOf l s) (isAt l s (bsOf l s)) = 0 → Good l s (df (bsOf l s))) : Came l dn fu fa s k (changedF l dn fu fa s wr rf df) := by
  unfold changedF
  split
  · rename_i h
    split
    · rename_i hd
      exact .down h hd
    · rename_i hd
      have hd : dn = false := by simpa using hd
      split
      · rename_i hr
        split
        · rename_i hf
          exact .fault h hd hf
        · rename_i hf
          split
          · rename_i hu
            refine .fuse _ _ h hd hf hu (fun hk => ?_) ?_ rfl
            · rw [if_neg (fun e => hk (hw e))]
            · split
              · exact hg h hr
              · exact good_refl h s
          · rename_i hu
            exact .done _ _ _ h hd hf hu (hg h hr) rfl rfl
      · rename_i hr
        exact .refused _ h hr hrf.1 hrf.2
  · rename_i h
    exact .wrong (by simpa using h)
theorem came_do (l : List S43) (dn : Bool) (fu fa k : Int) (s d : ByteArray) (n : Int) : Came l dn fu fa s k (doF l dn fu fa k s d n) := by
  unfold doF
  split
  · refine came_changed (by simp) ?_ (fun h hr => by simpa using good_create h hr)
    unfold rfC
    split
    · decide
    · split
      · decide
      · split <;> decide
  split
  · refine came_changed (fun _ => by assumption) ?_ (fun h hr => good_append h d hr)
    unfold rfW
    split
    · split <;> decide
    · decide
  split
  · refine came_changed (by simp) ?_ (fun h hr => good_sync h ?_)
    · split <;> decide
    · revert hr; split <;> simp [*]
  split
  · refine came_changed (by simp) ?_ (fun h hr => good_cut h n hr)
    unfold rfT
    split
    · split <;> decide
    · decide
  split
  · refine came_changed (by simp) ?_ (fun h hr => good_remove h ?_)
    · split <;> decide
    · revert hr; split <;> simp [*]
  split
  · rename_i h
    exact .refused 5 h (by decide) (by decide) (by decide)
  · rename_i h
    exact .wrong (by simpa using h)
/-- What is read under another name stays. -/
theorem read_apart {l l' : List S43} {s t : ByteArray} (h : rightF l = true) (hg : Good l s l') (ht : t.toList ≠ s.toList) (dn : Bool) : readF l' dn t = readF l dn t := by
  unfold readF
  rw [if_pos h, if_pos hg.1]
  have e : getF l' t = getF l t := by
    apply Option.ext
    intro x
    rw [getF_iff hg.1, getF_iff h]
    constructor
    · rintro ⟨a, b⟩
      exact ⟨(hg.2 x (by rw [b]; exact ht)).1 a, b⟩
    · rintro ⟨a, b⟩
      exact ⟨(hg.2 x (by rw [b]; exact ht)).2 a, b⟩
  rw [e]
end Go.Proofs.Ytanonhipicoigaa.T
