import Derived.BigRegion
import Derived.LoopN
import Derived.Deep.DeepCutAuto
import Derived.Test.YtanonhipicoigaaGreatDoorZSag
namespace Go.Proofs.YtanonhipicoigaaGreatDoor.U
open Go.RowKit Go.Proofs.YtanonhipicoigaaGreatDoorW.PrintWords Go.Proofs.YtanonhipicoigaaGreatDoorW.PrintLast Go.Proofs.YtanonhipicoigaaGreatDoorW.PrintMore Go.Proofs.YtanonhipicoigaaGreatDoor.Sp Go.Proofs.YtanonhipicoigaaGreatDoor.SegP
set_option linter.unusedVariables false
set_option linter.unusedSimpArgs false
theorem changed_len {l : List S67} {dn : Bool} {fu fa : Int} {s : ByteArray} {wr : Bool} {rf : Int → Bool → Int} {df : Int → List S67} {k : Nat} (h0 : l.length ≤ k) (h1 : ∀ i, (df i).length ≤ k) : (changedF l dn fu fa s wr rf df).1.length ≤ k := by
  unfold changedF
  split
  · split
    · exact h0
    · split
      · split
        · exact h0
        · split
          · cases wr
            · exact h0
            · exact h1 _
          · exact h1 _
      · exact h0
  · exact Nat.zero_le _
theorem stepC_len {L : Lg} {k : Nat} : (stepC L k).1.l.length ≤ L.l.length + 1 := by
  unfold stepC
  split
  · show (createF L.l L.dn L.fu L.fa (nameB L.nx.toNat)).1.length ≤ _
    refine changed_len (Nat.le_succ _) fun i => ?_
    simp only [List.length_append, List.length_take, List.length_drop, List.length_singleton]
    omega
  · exact Nat.le_succ _
theorem stepA_len {L : Lg} {nm s : ByteArray} : (stepA L nm s).1.l.length ≤ L.l.length := changed_len (Nat.le_refl _) fun i => by rw [List.length_set]; exact Nat.le_refl _
theorem stepS_len {L : Lg} {nm : ByteArray} : (stepS L nm).1.l.length ≤ L.l.length := changed_len (Nat.le_refl _) fun i => by rw [List.length_set]; exact Nat.le_refl _
theorem append_len {L R : Lg} {ds : List SegP.Bytes} {n m : Nat} {d : ByteArray} {e : Int} (h : WF L ds n m) (hR : appendL L d = (R, e)) : R.l.length ≤ 65 := by
  have h0 := right_len h.right
  rw [appendL, if_pos h.okL, appendDo, h.br, if_neg (by simp)] at hR
  split at hR
  · obtain ⟨rfl, _⟩ := Prod.mk.inj hR
    omega
  split at hR
  · obtain ⟨rfl, _⟩ := Prod.mk.inj hR
    omega
  have h1 := stepC_len (L := L) (k := (frameF L.nx d).size)
  split at hR
  · have e : R = (putDo (stepC L (frameF L.nx d).size).1 (frameF L.nx d)).1 := by rw [hR]
    rw [e]
    unfold putDo
    generalize stepC L (frameF L.nx d).size = X at h1 ⊢
    split
    · split
      · exact Nat.le_trans stepS_len (Nat.le_trans stepA_len (by omega))
      · exact Nat.le_trans stepS_len (Nat.le_trans stepA_len (by omega))
    · exact Nat.le_trans stepA_len (by omega)
  · have e : R = (stepC L (frameF L.nx d).size).1 := by rw [hR]
    rw [e]
    omega
end Go.Proofs.YtanonhipicoigaaGreatDoor.U
