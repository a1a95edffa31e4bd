import Derived.Test.YtanonhipicoigaaL4
import Derived.Test.YtanonhipicoigaaTx10
namespace Go.Proofs.Ytanonhipicoigaa.T
open Go.RowKit Go.Proofs.YtanonhipicoigaaW.PrintWords Go.Proofs.YtanonhipicoigaaW.PrintLast Go.Proofs.YtanonhipicoigaaW.PrintMore
set_option linter.unusedVariables false
set_option linter.unusedSimpArgs false

/-! ### What a fault leaves, in plain words -/
def Fz (l l2 : List S43) (k : Int) (s d : ByteArray) : Prop := l2.length = l.length ∧ (k ≠ 2 → l2 = l) ∧
  ∀ (i : Nat) (x : S43), l[i]? = some x → l2[i]? = some x ∨ (x.f0.toList = s.toList ∧ x.f1.size + d.size ≤ 262144 ∧ l2[i]? = some ⟨x.f0, x.f1 ++ d, x.f2⟩)
theorem Fz.refl (l : List S43) (k : Int) (s d : ByteArray) : Fz l l k s d := ⟨rfl, fun _ => rfl, fun i x h => .inl h⟩
def Fault (l : List S43) (k : Int) (s d : ByteArray) (R : List S43 × Bool × Int × Int × Int) : Prop :=
  (R.2.2.2.2 ≠ 18 ∧ R.2.2.2.2 ≠ 17) ∨ (rightF l = true ∧ rightF R.1 = true ∧ Fz l R.1 k s d ∧ ((R.2.2.2.2 = 18 ∧ R.2.2.2.1 = -1 ∧ R.2.1 = false) ∨ (R.2.2.2.2 = 17 ∧ R.2.1 = true)))
theorem append_fault (l : List S43) (dn : Bool) (fu fa : Int) (s d : ByteArray) : Fault l 2 s d (appendF l dn fu fa s d) := by
  unfold appendF changedF
  split
  · rename_i h
    split
    · rename_i hd
      exact .inr ⟨h, h, Fz.refl _ _ _ _, .inr ⟨rfl, hd⟩⟩
    · rename_i hd
      have hd : dn = false := by simpa using hd
      split
      · rename_i hr
        split
        · exact .inr ⟨h, h, Fz.refl _ _ _ _, .inl ⟨rfl, rfl, hd⟩⟩
        · split
          · have hg := good_append h d hr
            refine .inr ⟨h, ?_, ?_, .inr ⟨rfl, rfl⟩⟩
            · simp only [if_true]
              exact hg.1
            · simp only [if_true]
              unfold rfW at hr
              split at hr
              · rename_i hi
                obtain ⟨x, hx, e⟩ := at_of h hi
                rw [rd_get hx] at hr
                split at hr
                · cases hr
                rename_i hs
                simp only [Int.toNat_natCast, rd_get hx]
                refine ⟨by rw [List.length_set], fun h2 => absurd rfl h2, fun i y hy => ?_⟩
                by_cases hib : bsOf l s = i
                · subst hib
                  rw [hx] at hy
                  injection hy with hy
                  subst hy
                  exact .inr ⟨e, by omega, by rw [List.getElem?_set_self (List.getElem?_eq_some_iff.1 hx).1]⟩
                · exact .inl (by rw [List.getElem?_set_ne hib]; exact hy)
              · cases hr
          · exact .inl ⟨by simp, by simp⟩
      · left
        unfold rfW
        split
        · split <;> exact ⟨by simp, by simp⟩
        · exact ⟨by simp, by simp⟩
  · exact .inl ⟨by simp, by simp⟩
theorem do_fault (l : List S43) (dn : Bool) (fu fa k : Int) (s d : ByteArray) (n : Int) : Fault l k s d (doF l dn fu fa k s d n) := by
  by_cases hk : k = 2
  · subst hk
    have e : doF l dn fu fa 2 s d n = appendF l dn fu fa s d := by simp [doF]
    rw [e]
    exact append_fault l dn fu fa s d
  · have hc := came_do l dn fu fa k s d n
    revert hc
    generalize doF l dn fu fa k s d n = R
    intro hc
    cases hc with
    | wrong h => exact .inl ⟨by simp, by simp⟩
    | down h hd => exact .inr ⟨h, h, Fz.refl _ _ _ _, .inr ⟨rfl, hd⟩⟩
    | refused e h h1 h2 h3 => exact .inl ⟨h3, h2⟩
    | fault h hd hf => exact .inr ⟨h, h, Fz.refl _ _ _ _, .inl ⟨rfl, rfl, hd⟩⟩
    | fuse l' fa' h hd hf hu hl hg he =>
      have := hl hk
      subst this
      exact .inr ⟨h, h, Fz.refl _ _ _ _, .inr ⟨rfl, rfl⟩⟩
    | done l' fu' fa' h hd hf hu hg h1 h2 => exact .inl ⟨by simp, by simp⟩
theorem do_faults (l : List S43) (dn : Bool) (fu fa k : Int) (s d : ByteArray) (n : Int) : ∃ l2 dn2 fu2 fa2 e, disk_Do.f l dn fu fa k s d n = some (l2, dn2, fu2, fa2, e) ∧
    ((¬ e = 18 ∧ ¬ e = 17) ∨ (rightF l = true ∧ rightF l2 = true ∧ Fz l l2 k s d ∧ ((e = 18 ∧ fa2 = -1 ∧ dn2 = false) ∨ (e = 17 ∧ dn2 = true)))) :=
  ⟨_, _, _, _, _, disk_Do_eq l dn fu fa k s d n, do_fault l dn fu fa k s d n⟩
/-- A disk that is down does nothing. -/
theorem do_down {l : List S43} (h : rightF l = true) (fu fa k : Int) (s d : ByteArray) (n : Int) : ∃ e, disk_Do.f l true fu fa k s d n = some (l, true, fu, fa, e) ∧ (e = 17 ∨ (e ≠ 17 ∧ e = 5)) := by
  rw [disk_Do_eq]
  unfold doF createF appendF syncF cutF removeF changedF
  simp only [if_pos h, if_true]
  split
  · exact ⟨_, rfl, .inl rfl⟩
  split
  · exact ⟨_, rfl, .inl rfl⟩
  split
  · exact ⟨_, rfl, .inl rfl⟩
  split
  · exact ⟨_, rfl, .inl rfl⟩
  split
  · exact ⟨_, rfl, .inl rfl⟩
  exact ⟨_, rfl, .inr ⟨by decide, rfl⟩⟩
theorem copy_eq {l : List S43} (h : l.length ≤ 64) (dn : Bool) (fu fa : Int) : penstockref09_Copy.f l dn fu fa = some (l, dn, fu, fa) := by
  unfold penstockref09_Copy.f
  simp only [Option.bind_some, List.nil_append, List.length_nil]
  rw [if_pos (by omega)]
end Go.Proofs.Ytanonhipicoigaa.T
