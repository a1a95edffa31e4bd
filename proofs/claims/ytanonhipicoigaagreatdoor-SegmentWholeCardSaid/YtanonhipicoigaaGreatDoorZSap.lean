import Derived.Test.YtanonhipicoigaaGreatDoorZSac
set_option linter.unusedVariables false
set_option linter.unusedSimpArgs false
namespace Go.Proofs.YtanonhipicoigaaGreatDoor.Sp
open Go.RowKit Go.Proofs.YtanonhipicoigaaGreatDoorW.PrintWords Go.Proofs.YtanonhipicoigaaGreatDoorW.PrintLast Go.Proofs.YtanonhipicoigaaGreatDoorW.PrintMore
section
variable {P : Program} {ops : Array Oper} {oi : Oper} {a : Act} {Q : Exit → Act → World → Prop} {K : Act → World → Prop} {b W : World} {rs : List Res}
/-- A literal slice. -/
theorem lit_step {N : Option Tmp} (hw : Region.wanted oi (yielded ops a.tmps) = true) (hN : oi.dst = N) (H : Sep b W rs) (cs : List Value) (e : TypeId) (n : Nat)
    (hrun : (execOp a.eval oi).run P W = .ok (.value (.slice (some ⟨W.heap.size, 0, none⟩) n n)) (W.alloc (.cells cs.toArray e (0, 0))))
    (h : ∀ g W', Sep b W' (box g cs e :: rs) → K (a.put N (.slice (some ⟨g, 0, none⟩) n n)) W') : if Region.wanted oi (yielded ops a.tmps) = true then Oper.wp P oi a W K Q else K (a.put N undef) W :=
  value_ hw hN hrun (h _ _ (H.alloc cs e))
/-- An empty block as a row. -/
theorem row_none {α : Type} {d : Kd α} {e : TypeId} {g : Nat} (H : Sep b W (box g [] e :: rs)) : Sep b W (row d e (.slice (some ⟨g, 0, none⟩) 0 0) [] :: rs) := by
  have hb : W.heap[g]? = some (.cells #[] e (0, 0)) := H.box_ (g := g) (cs := []) mem0
  refine H.upd0 (r' := row d e (.slice (some ⟨g, 0, none⟩) 0 0) []) (Upd.refl _ _) ?_ (fun k hk => .inl ?_)
  · exact ⟨fun k hk => hk, [], ⟨by simp, .inr ⟨g, 0, #[], rfl, Nat.zero_le _, hb, Nat.le_refl _, Nat.zero_le _, by simp, by simp⟩⟩, Reps.none _ _⟩
  · have : some g = some k := hk
    injection this with this
    exact this.symm
/-- append of a row that is read: in a region. -/
theorem app_rows_step {α : Type} (d : Kd α) (hd : Flat d) (hw : Region.wanted oi (yielded ops a.tmps) = true) (s x : Operand) (t e : TypeId) (z : Value) (bytes : Nat)
    (ho : oi.op = .call { callee := .builtin .append, args := #[s, x], argTypes := #[t, t] })
    (ht : P.underlying t = some (.slice e)) (hinfo : (P.info? e).map (fun i => (i.zero, i.size, i.bytes)) = some (some z, d.sz, bytes)) (hz : z.cells.size = d.sz) (hs0 : 0 < d.sz) (hb0 : 0 < bytes)
    (v : Value) (xs ys : List α) (A : Option Addr) (c : Nat) (hs : a.eval s = v) (hx : a.eval x = .slice A ys.length c)
    (HR : d.C W A ys.length ys) (hKM : ∀ x cs, d.K W x cs → d.M W 0 (fun _ => False) x cs) (H : Sep b W (row d e v xs :: rs)) (hl : (xs.length + ys.length) * bytes ≤ 140737488355328)
    (h : ∀ A1 c1 W', Sep b W' (row d e (.slice A1 (xs ++ ys).length c1) (xs ++ ys) :: rs) → K (a.put oi.dst (.slice A1 (xs ++ ys).length c1)) W') :
    if Region.wanted oi (yielded ops a.tmps) = true then Oper.wp P oi a W K Q else K (a.put oi.dst undef) W := by
  have hr : d.R e W 0 (fun k => v.ownBlock = some k) v xs := H.all (row d e v xs) (by simp)
  refine Kd.R_append_rows_step d (w0 := W) 0 hw s x t e z bytes ho ht hinfo hz hs0 hb0 v xs ys A ys.length c (fun k => v.ownBlock = some k ∨ W.heap.size ≤ k) (fun _ => False) hs hx
    (Kd.R_mono hr (fun k hk => .inl hk)) HR hKM (fun _ hk => hk.elim) (fun k hk => .inr hk) (Below.refl _ _) (Nat.zero_le _) hl ?_
  intro v1 w1 ho1 _ hg hat
  obtain ⟨A1, c1, rfl⟩ := Kd.R_slice ho1
  refine h A1 c1 w1 (H.upd0 (r' := row d e (.slice A1 (xs ++ ys).length c1) (xs ++ ys)) (Upd.of_grown hg) (Kd.R_flat hd ho1 (fun k hk _ => hk)) (fun k hk => ?_))
  have hk' : (Value.slice A1 (xs ++ ys).length c1).ownBlock = some k := hk
  rcases hat with e1 | ⟨b1, e1, hb1⟩
  · exact .inl (show v.ownBlock = some k by rw [← e1]; exact hk')
  · rw [e1] at hk'
    injection hk' with hk'
    exact .inr (by omega)
end
end Go.Proofs.YtanonhipicoigaaGreatDoor.Sp
