import Derived.WalkSpells
import Derived.BigRegion
import Derived.LoopN
import Derived.Deep.DeepCutAuto
import Derived.Test.YtanonhipicoigaaGreatDoorZQap
import Derived.Test.YtanonhipicoigaaGreatDoorZQal
import Derived.Test.YtanonhipicoigaaGreatDoorZQai
import Derived.WalkLawsBesides
import Derived.Outline
import Derived.Test.YtanonhipicoigaaGreatDoorZQag
set_option linter.unusedVariables false
set_option linter.unusedSimpArgs false
namespace Go.Proofs.YtanonhipicoigaaGreatDoor.UE
open Go.Proofs.YtanonhipicoigaaGreatDoor.U Go.RowKit Go.Proofs.YW.PrintWords Go.Proofs.YW.PrintLast Go.Proofs.YW.PrintMore Go.Proofs.YtanonhipicoigaaGreatDoor.Sp Go.Proofs.YtanonhipicoigaaGreatDoor.eP
def cells3 (x : S41) : List Value := [.int .u64 x.f0, .string x.f1, .bool x.f2]
def cellsOf (l : List S41) : List Value := l.flatMap cells3
theorem cO (x : S41) (l : List S41) : cellsOf (x :: l) = .int .u64 x.f0 :: .string x.f1 :: .bool x.f2 :: cellsOf l := rfl
theorem pO (a b : List S41) : cellsOf (a ++ b) = cellsOf a ++ cellsOf b := by simp [cellsOf]
theorem cellsOf_length : ∀ l : List S41, (cellsOf l).length = l.length * 3
 | [] => rfl
 | x :: l => by rw [cO]; simp only [List.length_cons]; rw [cellsOf_length l]; omega
theorem jY : ∀ (l : List S41) (i : Nat), cellsOf (l.take i) = (cellsOf l).take (i * 3)
 | [], i => by simp [cellsOf]
 | x :: l, 0 => by simp [cellsOf]
 | x :: l, i + 1 => by
  rw [List.take_succ_cons, cO, cO, jY l i, show (i + 1) * 3 = i * 3 + 1 + 1 + 1 by omega]
  simp only [List.take_succ_cons]
theorem kY : ∀ (l : List S41) (i : Nat), cellsOf (l.drop i) = (cellsOf l).drop (i * 3)
 | [], i => by simp [cellsOf]
 | x :: l, 0 => by simp
 | x :: l, i + 1 => by
  rw [List.drop_succ_cons, cO, kY l i, show (i + 1) * 3 = i * 3 + 1 + 1 + 1 by omega]
  simp only [List.drop_succ_cons]
theorem jZ : ∀ (l : List S41) (i : Nat) (x : S41) (u : ByteArray), l[i]? = some x → (cellsOf l).set (i * 3 + 1) (.string u) = cellsOf (l.set i ⟨x.f0, u, x.f2⟩)
 | [], i, x, u, h => by simp at h
 | y :: l, 0, x, u, h => by
  obtain rfl : y = x := by simpa using h
  simp [cO]
 | y :: l, i + 1, x, u, h => by
  show _ = cellsOf (y :: l.set i _)
  rw [cO, cO, ← jZ l i x u (by simpa using h), show (i + 1) * 3 + 1 = i * 3 + 1 + 1 + 1 + 1 by omega]
  simp only [zS]
theorem jK : ∀ (l : List S41) (i : Nat) (x : S41) (u : Bool), l[i]? = some x → (cellsOf l).set (i * 3 + 2) (.bool u) = cellsOf (l.set i ⟨x.f0, x.f1, u⟩)
 | [], i, x, u, h => by simp at h
 | y :: l, 0, x, u, h => by
  obtain rfl : y = x := by simpa using h
  simp [cO]
 | y :: l, i + 1, x, u, h => by
  show _ = cellsOf (y :: l.set i _)
  rw [cO, cO, ← jK l i x u (by simpa using h), show (i + 1) * 3 + 2 = i * 3 + 2 + 1 + 1 + 1 by omega]
  simp only [zS]
theorem jB : ∀ (l : List S41) (i : Nat) (x : S41), l[i]? = some x → (cellsOf l)[i * 3]? = some (.int .u64 x.f0) ∧ (cellsOf l)[i * 3 + 1]? = some (.string x.f1) ∧ (cellsOf l)[i * 3 + 2]? = some (.bool x.f2)
 | [], i, x, h => by simp at h
 | y :: l, 0, x, h => by
  obtain rfl : y = x := by simpa using h
  simp [cO]
 | y :: l, i + 1, x, h => by
  have ih := jB l i x (by simpa using h)
  rw [cO, show (i + 1) * 3 = i * 3 + 1 + 1 + 1 by omega]
  simp only [List.getElem?_cons_succ]
  exact ih
theorem qO (l : List S41) : ∀ u ∈ cellsOf l, u.oneCell' = true := by
 intro u hu
 simp only [cellsOf, List.mem_flatMap, cells3] at hu
 obtain ⟨x, _, hx⟩ := hu
 simp only [List.mem_cons, List.not_mem_nil, or_false] at hx
 rcases hx with rfl | rfl | rfl <;> rfl
theorem add_plain' (g k j : Nat) : (⟨g, k, none⟩ : Addr).add j = ⟨g, k + j, none⟩ := by unfold Addr.add; split <;> simp_all
theorem CQ (w : World) (base : Nat) (ok : Nat → Prop) : ∀ l : List S41, fH (k41.M w base ok) 3 l (cellsOf l) := by
 intro l
 refine ⟨cellsOf_length l, fun j p hj => ?_⟩
 rw [← kY, show ((3 : Nat)) = 1 * 3 from rfl, ← jY]
 have hlt : j < l.length := (List.getElem?_eq_some_iff.1 hj).1
 have e : (l.drop j).take 1 = [p] := by
  rw [List.drop_eq_getElem_cons hlt]
  have := (List.getElem?_eq_some_iff.1 hj).2
  simp [this]
 rw [e]
 exact NI w base ok p
theorem CS {w : World} {base : Nat} {ok : Nat → Prop} : ∀ {l : List S41} {cs : List Value}, fH (k41.M w base ok) 3 l cs → cs = cellsOf l := by
 intro l
 induction l with
 | nil =>
  intro cs h
  have := h.1
  simp at this
  rw [this]; rfl
 | cons x l ih =>
  intro cs h
  have h0 := Q9 (h.2 0 x rfl)
  simp only [Nat.zero_mul, List.drop_zero] at h0
  have hl := h.1
  simp only [List.length_cons] at hl
  have h1 : fH (k41.M w base ok) 3 l (cs.drop 3) := by
   refine ⟨by rw [List.length_drop]; omega, fun j p hj => ?_⟩
   have := h.2 (j + 1) p (by simpa using hj)
   rw [List.drop_drop, show 3 + j * 3 = (j + 1) * 3 by omega]
   exact this
  rw [cO, ← ih h1]
  have e : cs = cs.take 3 ++ cs.drop 3 := (List.take_append_drop 3 cs).symm
  rw [h0] at e
  exact e
theorem sJ {w : World} {base : Nat} {ok : Nat → Prop} {v : Value} {l : List S41} (h : Kd.R k41 41 w base ok v l) : w.ownsRow base 41 3 v l.length (cellsOf l) := by
 obtain ⟨_, inner, ho, hr⟩ := h
 rw [← CS hr]
 exact ho
theorem oL {w : World} {base : Nat} {v : Value} {l : List S41} (h : w.ownsRow base 41 3 v l.length (cellsOf l)) : Kd.R k41 41 w base (fun _ => True) v l :=
 ⟨fun _ _ => trivial, cellsOf l, h, CQ _ _ _ l⟩
theorem lV {w : World} {base : Nat} {ok : Nat → Prop} {A : Option Addr} {n c : Nat} {l : List S41} (h : Kd.R k41 41 w base ok (.slice A n c) l) (hne : 0 < l.length) :
  ∃ g cur, A = some ⟨g, 0, none⟩ ∧ n = l.length ∧ base ≤ g ∧ w.heap[g]? = some (.cells cur 41 (0, 0)) ∧ l.length ≤ c ∧ c ≤ maxLen ∧ cur.size = c * 3 ∧ cur.toList.take (l.length * 3) = cellsOf l := by
 obtain ⟨_, h2 | ⟨g, cap, cur, he, hb, hh, h3, h4, h5, h6⟩⟩ := sJ h
 ·omega
 ·injection he with e1 e2 e3
  subst e1 e2 e3
  exact ⟨g, cur, rfl, rfl, hb, hh, h3, h4, h5, h6⟩
theorem kE {w : World} {g : Nat} {cur : Array Value} {l : List S41} {j : Nat} {u : Value} (hh : w.heap[g]? = some (.cells cur 41 (0, 0))) (h6 : cur.toList.take (l.length * 3) = cellsOf l) (hj : (cellsOf l)[j]? = some u) :
  w.cell? ⟨g, j, none⟩ = some u := by
 have hlt : j < l.length * 3 := by
  have := (List.getElem?_eq_some_iff.1 hj).1
  rwa [cellsOf_length] at this
 rw [aG hh]
 rw [← h6, List.getElem?_take_of_lt hlt] at hj
 rw [← hj]
 simp
theorem zX {w : World} {base g c j : Nat} {l l' : List S41} {u : Value} (h : Kd.R k41 41 w base (fun _ => True) (.slice (some ⟨g, 0, none⟩) l.length c) l) (hl : l'.length = l.length) (he : (cellsOf l).set j u = cellsOf l') (hj : j < l.length * 3) :
  Kd.R k41 41 (w.setCell ⟨g, j, none⟩ u) base (fun _ => True) (.slice (some ⟨g, 0, none⟩) l'.length c) l' := by
 obtain ⟨g', cur, hg, _, hb, hh, h3, h4, h5, h6⟩ := lV h (by omega)
 injection hg with hg
 injection hg with hg
 subst hg
 refine oL ⟨by rw [cellsOf_length], .inr ⟨g, c, cur.setIfInBounds j u, rfl, hb, FZ hh j u, by omega, h4, by simpa using h5, ?_⟩⟩
 rw [← he, ← h6, hl]
 simp [List.take_set]
theorem U9 : ∃ i0, Tryz.prog.info? 41 = some i0 ∧ i0.zero = some (.agg #[(.int .u64 0), (.string ⟨#[]⟩), (.bool false)]) ∧ i0.size = 3 ∧ i0.bytes = 32 := by
 obtain ⟨i0, hi, he⟩ := Option.map_eq_some_iff.1 S9
 simp only [Prod.mk.injEq] at he
 exact ⟨i0, hi, he⟩
theorem qge (w : World) : (zeroValue 41).run Tryz.prog w = .ok (.agg #[.int .u64 0, .string ⟨#[]⟩, .bool false]) w := by kernel_rfl
theorem XI (w : World) (ty g o c : Nat) (hc : ∀ j, j < 3 → (w.cell? ⟨g, o + j, none⟩).isSome = true) (hf : ∀ j, j < 3 → w.frozen? ⟨g, o + j, none⟩ = false) :
  (Builtin.clear_ #[31] ty #[.slice (some ⟨g, o, none⟩) 1 c]).run Tryz.prog w = .ok (.tuple #[]) (w.setCells g o [.int .u64 0, .string ⟨#[]⟩, .bool false]) := by
 have hzc : (Builtin.zeroCells (Value.agg #[.int .u64 0, .string ⟨#[]⟩, .bool false]).cells 1).toList = [.int .u64 0, .string ⟨#[]⟩, .bool false] := by kernel_rfl
 have hst := run_storeCells_cells (P := Tryz.prog) g o [.int .u64 0, .string ⟨#[]⟩, .bool false] 0 w (by simpa using hc) (by simpa using hf) (by intro v hv'; simp at hv'; rcases hv' with rfl | rfl | rfl <;> rfl)
 simp only [Nat.add_zero] at hst
 simp [Builtin.clear_, run_underlying Tryz.underlying31, qge, hzc, hst]
set_option maxHeartbeats 8000000 in
set_option maxRecDepth 100000 in
theorem CU (w : World) (base : Nat) (l : List S41) (g c : Nat) (i m : Nat) (hl : l.length = i + m + 1) (hn : l.length ≤ 1024) (ho : Kd.R k41 41 w base (fun _ => True) (.slice (some ⟨g, 0, none⟩) l.length c) l) :
  Calls Tryz.prog 62 #[.slice (some ⟨g, 0, none⟩) (i + m + 1) c, .int .i64 (i : Int), .int .i64 ((i : Int) + 1)] w fun e w4 => e = .returned (.slice (some ⟨g, 0, none⟩) (i + m) c) ∧
   Kd.R k41 41 w4 base (fun _ => True) (.slice (some ⟨g, 0, none⟩) (i + m) c) (l.take i ++ l.drop (i + 1)) ∧ Below base w w4 ∧ ∀ k, k ≠ g → w4.heap[k]? = w.heap[k]? := by
 obtain ⟨g', cur, e, _, hg, hh, h3, h4, h5, h6⟩ := lV ho (by omega)
 injection e with e
 injection e with e
 subst e
 obtain ⟨i0, hi0, hz0, hz1, hz2⟩ := U9
 have hic : i + m + 1 ≤ c := by omega
 have him : i + m + 1 ≤ 1024 := by omega
 have hi7 : i ≤ c := by omega
 have hcm : c ≤ 9223372036854775807 := by unfold maxLen at h4; omega
 have hne : ((i : Int) == (i : Int) + 1) = false := by simp; omega
 have HL := aA.mk hl
 have HI0 := aA.mk hi0
 have HZ1 := aA.mk hz1
 have HH := aA.mk hh
 have H6 := aA.mk h6
 have HG := aA.mk hg
 have H5 := aA.mk h5
 have hnews : aA ((cellsOf (l.drop (i + 1))).length = m * 3) := ⟨by rw [cellsOf_length, List.length_drop]; omega⟩
 have hspare : aA (∀ j, j < (cellsOf (l.drop (i + 1))).length → (w.drew.cell? ⟨g, 0 + i * 3 + j, none⟩).isSome = true ∧ w.drew.frozen? ⟨g, 0 + i * 3 + j, none⟩ = false) := ⟨fun j hj => by
  rw [hnews.out] at hj
  refine ⟨?_, aC (bJ hh) _⟩
  rw [aG (bJ hh), Array.getElem?_eq_getElem (by omega)]
  rfl⟩
 have hcell : aA (∀ j u, (cellsOf (l.drop (i + 1)))[j]? = some u → w.drew.cell? ⟨g, (i + 1) * 3 + j, none⟩ = some u) := ⟨fun j u hu => by
  rw [kY, List.getElem?_drop] at hu
  exact kE (bJ hh) h6 hu⟩
 clear hl hi0 hz0 hz1 hz2 hh h6 hg h5 h4 h3 ho hn
 have hend : ∀ W : World, W = (w.drew.setCells g (0 + i * 3) (cellsOf (l.drop (i + 1)))) → aA ((∀ j, j < 3 → (W.cell? ⟨g, (i + m) * 3 + j, none⟩).isSome = true) ∧ (∀ j, j < 3 → W.frozen? ⟨g, (i + m) * 3 + j, none⟩ = false) ∧
   Kd.R k41 41 (W.setCells g ((i + m) * 3) [.int .u64 0, .string ⟨#[]⟩, .bool false]) base (fun _ => True) (.slice (some ⟨g, 0, none⟩) (i + m) c) (l.take i ++ l.drop (i + 1)) ∧ Below base w (W.setCells g ((i + m) * 3) [.int .u64 0, .string ⟨#[]⟩, .bool false]) ∧
   ∀ k, k ≠ g → (W.setCells g ((i + m) * 3) [.int .u64 0, .string ⟨#[]⟩, .bool false]).heap[k]? = w.heap[k]?) := by
  rintro W rfl
  obtain ⟨qfW, hc1, hs1, hl1⟩ := kV g 41 (cellsOf (l.drop (i + 1))) (0 + i * 3) w.drew cur (bJ HH.out)
  obtain ⟨qfX, hc2, hs2, hl2⟩ := kV g 41 [.int .u64 0, .string ⟨#[]⟩, .bool false] ((i + m) * 3) _ qfW hc1
  have hsz : cur.size = c * 3 := H5.out
  have hct : cur.toList.length = c * 3 := by simpa using hsz
  refine ⟨fun j hj => ?_, fun j hj => aC hc1 _, ?_, ?_, fun k hk => ?_⟩
  ·rw [aG hc1, Array.getElem?_eq_getElem (by omega)]
   rfl
  ·have hlen : (l.take i ++ l.drop (i + 1)).length = i + m := by rw [List.length_append, List.length_take, List.length_drop, HL.out]; omega
   refine oL ⟨by rw [cellsOf_length], .inr ⟨g, c, qfX, by rw [hlen], HG.out, hc2, by omega, ?_, by omega, ?_⟩⟩
   ·unfold maxLen; omega
   ·rw [hl2, hl1, hlen, vV _ _ _ (by
     rw [vV _ _ _ (by rw [hnews.out, hct]; omega)]
     simp [hct, hnews.out]; omega)]
    rw [vV _ _ _ (by rw [hnews.out, hct]; omega), pO, jY, hnews.out, Nat.zero_add]
    have h6 := H6.out
    have e1 : cur.toList.take (i * 3) = (cellsOf l).take (i * 3) := by rw [← h6, List.take_take]; congr 1; rw [HL.out]; omega
    have e2 : (cur.toList.take (i * 3) ++ cellsOf (l.drop (i + 1))).length = (i + m) * 3 := by rw [List.length_append, List.length_take, hnews.out, hct]; omega
    rw [List.append_assoc, List.take_append_of_le_length (by rw [List.length_take, List.length_append, List.length_append, List.length_take, hnews.out, hct, List.length_drop, hct]; omega)]
    rw [List.take_take, Nat.min_self, List.take_append_of_le_length (by omega), ← e2, List.take_length, e1]
  ·exact l7 HG.out _ _ _ (l7 HG.out _ _ _ (fE (Below.refl base w)))
  ·rw [lZ g k hk, lZ g k hk]
   rfl
 have CV := aA.mk hend
 clear hend
 have TG : ∀ (ty c' : Nat) (W : World), W = (w.drew.setCells g (0 + i * 3) (cellsOf (l.drop (i + 1)))) → (Builtin.clear_ #[31] ty #[.slice (some ⟨g, (i + m) * 3, none⟩) 1 c']).run Tryz.prog W = .ok (.tuple #[]) (W.setCells g ((i + m) * 3) [.int .u64 0, .string ⟨#[]⟩, .bool false]) := fun ty c' W hW =>
  XI W ty g ((i + m) * 3) c' ((CV.out W hW).out.1) ((CV.out W hW).out.2.1)
 have OI := aA.mk TG
 clear TG
 by_cases hci : c = i + 1
 ·have hm0 : m = 0 := by omega
  subst hm0
  subst hci
  simp only [Nat.add_zero] at CV OI HL hic him ⊢
  have z1 : (i : Int) ≤ (i : Int) + 1 := by omega
  have z2 : (0 : Int) ≤ (i : Int) + 1 := by omega
  go_enter Tryz.func62, Tryz.ntmps62
  go_wp2
  refine gK (n := 8) (S := fun w' => True) (ds := []) #[false, false, false, false, false, false, false, false] (by kernel_rfl) rfl rfl trivial (fun hHeld => ?_)
  refine aQ (i := 0) (N := some 20) (v := ?_) (a' := ?_) #[true, false, false, false, false, false, false, false] rfl rfl (by kernel_rfl) (fun _ _ _ h => h) (Or.inl ⟨by rfl, ?_⟩) ?_ ?_
  rotate_left
  ·intro w'
   go_simp
   with_reducible rfl
  rotate_left
  ·simp only [Act.put, zA, zZ, zS, aI, aJ]
   rfl
  refine aQ (i := 1) (N := some 21) (v := ?_) (a' := ?_) #[true, true, false, false, false, false, false, false] rfl rfl (by kernel_rfl) (fun _ _ _ h => h) (Or.inl ⟨by rfl, ?_⟩) ?_ ?_
  rotate_left
  ·intro w'
   go_simp
   with_reducible rfl
  rotate_left
  ·simp only [Act.put, zA, zZ, zS, aI, aJ]
   rfl
  refine aQ (i := 2) (N := some 22) (v := ?_) (a' := ?_) #[true, true, true, false, false, false, false, false] rfl rfl (by kernel_rfl) (fun _ _ _ h => h) (Or.inl ⟨by rfl, ?_⟩) ?_ ?_
  rotate_left
  ·intro w'
   go_simp
   with_reducible rfl
  rotate_left
  ·simp only [Act.put, zA, zZ, zS, aI, aJ]
   rfl
  refine aQ (i := 3) (N := some 23) (v := ?_) (a' := ?_) #[true, true, true, true, false, false, false, false] rfl rfl (by kernel_rfl) (fun _ _ _ h => h) (Or.inl ⟨by rfl, ?_⟩) ?_ ?_
  rotate_left
  ·intro w'
   go_simp
   with_reducible rfl
  rotate_left
  ·simp only [Act.put, zA, zZ, zS, aI, aJ]
   rfl
  refine aQ (i := 4) (N := some 24) (v := ?_) (a' := ?_) #[true, true, true, true, true, false, false, false] rfl rfl (by kernel_rfl) (fun _ _ _ h => h) (Or.inl ⟨by rfl, ?_⟩) ?_ ?_
  rotate_left
  ·intro w'
   go_simp
   with_reducible rfl
  rotate_left
  ·simp only [Act.put, zA, zZ, zS, aI, aJ]
   rfl
  refine aQ (i := 5) (N := some 25) (v := ?_) (a' := ?_) #[true, true, true, true, true, true, false, false] rfl rfl (by kernel_rfl) (fun _ _ _ h => h) (Or.inl ⟨by rfl, ?_⟩) ?_ ?_
  rotate_left
  ·intro w'
   go_simp
   with_reducible rfl
  rotate_left
  ·simp only [Act.put, zA, zZ, zS, aI, aJ]
   rfl
  refine lX (i := 6) (N := some 26) #[true, true, true, true, true, true, true, false] rfl rfl (by kernel_rfl) (by decide) (fun K hK => ?_)
  refine step_append_room rfl (.tmp 22) (.tmp 25) 31 rfl 41 i0 3 Tryz.underlying31 HI0.out HZ1.out g 0 i (i + 1) rfl ⟨g, 0, none⟩ 0 0 (cellsOf (l.drop (i + 1))) rfl hnews.out ?ncz (qO _) (by omega) hspare.out ?_
  case ncz => intro j u hu; exact absurd (List.getElem?_eq_some_iff.1 hu).1 (by rw [hnews.out]; omega)
  refine hK.out _ _ trivial (fun hHeld => ?_)
  clear hK K
  refine fO (a' := ?_) ?_ ?_
  rotate_left
  ·show Act.put _ (some 26) _ = _
   simp only [Act.put, zA, zZ, zS, aI, aJ]
   rfl
  refine aQ (i := 7) (N := some 0) (v := ?_) (a' := ?_) #[true, true, true, true, true, true, true, true] rfl rfl (by kernel_rfl) (fun _ _ _ h => h) (Or.inl ⟨by rfl, ?_⟩) ?_ ?_
  rotate_left
  ·intro w'
   go_simp
   with_reducible rfl
  rotate_left
  ·simp only [Act.put, zA, zZ, zS, aI, aJ]
   rfl
  refine jR (by kernel_rfl) ?_
  obtain ⟨W, hW⟩ : ∃ W, W = (w.drew.setCells g (0 + i * 3) (cellsOf (l.drop (i + 1)))) := ⟨_, rfl⟩
  rw [← hW]
  have TG := fun ty c' => OI.out ty c' W hW
  have HW := CV.out W hW
  clear hW CV OI hHeld
  go_wp2
  go_ret
  exact ⟨rfl, HW.out.2.2.1, HW.out.2.2.2.1, HW.out.2.2.2.2⟩
 ·have z2 : (0 : Int) ≤ (i : Int) + 1 := by omega
  have z3 : (i : Int) + 1 ≤ (i : Int) + (m : Int) + 1 := by omega
  have z4 : i + 1 ≤ c := by omega
  have z5 : (i : Int) + 1 ≤ (c : Int) := by omega
  go_enter Tryz.func62, Tryz.ntmps62
  go_wp2
  refine gK (n := 8) (S := fun w' => True) (ds := []) #[false, false, false, false, false, false, false, false] (by kernel_rfl) rfl rfl trivial (fun hHeld => ?_)
  refine aQ (i := 0) (N := some 20) (v := ?_) (a' := ?_) #[true, false, false, false, false, false, false, false] rfl rfl (by kernel_rfl) (fun _ _ _ h => h) (Or.inl ⟨by rfl, ?_⟩) ?_ ?_
  rotate_left
  ·intro w'
   go_simp
   with_reducible rfl
  rotate_left
  ·simp only [Act.put, zA, zZ, zS, aI, aJ]
   rfl
  refine aQ (i := 1) (N := some 21) (v := ?_) (a' := ?_) #[true, true, false, false, false, false, false, false] rfl rfl (by kernel_rfl) (fun _ _ _ h => h) (Or.inl ⟨by rfl, ?_⟩) ?_ ?_
  rotate_left
  ·intro w'
   go_simp
   with_reducible rfl
  rotate_left
  ·simp only [Act.put, zA, zZ, zS, aI, aJ]
   rfl
  refine aQ (i := 2) (N := some 22) (v := ?_) (a' := ?_) #[true, true, true, false, false, false, false, false] rfl rfl (by kernel_rfl) (fun _ _ _ h => h) (Or.inl ⟨by rfl, ?_⟩) ?_ ?_
  rotate_left
  ·intro w'
   go_simp
   with_reducible rfl
  rotate_left
  ·simp only [Act.put, zA, zZ, zS, aI, aJ]
   rfl
  refine aQ (i := 3) (N := some 23) (v := ?_) (a' := ?_) #[true, true, true, true, false, false, false, false] rfl rfl (by kernel_rfl) (fun _ _ _ h => h) (Or.inl ⟨by rfl, ?_⟩) ?_ ?_
  rotate_left
  ·intro w'
   go_simp
   with_reducible rfl
  rotate_left
  ·simp only [Act.put, zA, zZ, zS, aI, aJ]
   rfl
  refine aQ (i := 4) (N := some 24) (v := ?_) (a' := ?_) #[true, true, true, true, true, false, false, false] rfl rfl (by kernel_rfl) (fun _ _ _ h => h) (Or.inl ⟨by rfl, ?_⟩) ?_ ?_
  rotate_left
  ·intro w'
   go_simp
   with_reducible rfl
  rotate_left
  ·simp only [Act.put, zA, zZ, zS, aI, aJ]
   rfl
  refine aQ (i := 5) (N := some 25) (v := ?_) (a' := ?_) #[true, true, true, true, true, true, false, false] rfl rfl (by kernel_rfl) (fun _ _ _ h => h) (Or.inl ⟨by rfl, ?_⟩) ?_ ?_
  rotate_left
  ·intro w'
   go_simp
   with_reducible rfl
  rotate_left
  ·simp only [Act.put, zA, zZ, zS, aI, aJ]
   rfl
  refine lX (i := 6) (N := some 26) #[true, true, true, true, true, true, true, false] rfl rfl (by kernel_rfl) (by decide) (fun K hK => ?_)
  refine step_append_room rfl (.tmp 22) (.tmp 25) 31 rfl 41 i0 3 Tryz.underlying31 HI0.out HZ1.out g 0 i c rfl ⟨g, (i + 1) * 3, none⟩ m (c - (i + 1)) (cellsOf (l.drop (i + 1))) rfl hnews.out ?ncg (qO _) (by omega) hspare.out ?_
  case ncg => intro j u hu; rw [add_plain']; exact hcell.out j u hu
  refine hK.out _ _ trivial (fun hHeld => ?_)
  clear hK K
  refine fO (a' := ?_) ?_ ?_
  rotate_left
  ·show Act.put _ (some 26) _ = _
   simp only [Act.put, zA, zZ, zS, aI, aJ]
   rfl
  refine aQ (i := 7) (N := some 0) (v := ?_) (a' := ?_) #[true, true, true, true, true, true, true, true] rfl rfl (by kernel_rfl) (fun _ _ _ h => h) (Or.inl ⟨by rfl, ?_⟩) ?_ ?_
  rotate_left
  ·intro w'
   go_simp
   with_reducible rfl
  rotate_left
  ·simp only [Act.put, zA, zZ, zS, aI, aJ]
   rfl
  refine jR (by kernel_rfl) ?_
  obtain ⟨W, hW⟩ : ∃ W, W = (w.drew.setCells g (0 + i * 3) (cellsOf (l.drop (i + 1)))) := ⟨_, rfl⟩
  rw [← hW]
  have TG := fun ty c' => OI.out ty c' W hW
  have HW := CV.out W hW
  clear hW CV OI hHeld
  go_wp2
  go_ret
  exact ⟨rfl, HW.out.2.2.1, HW.out.2.2.2.1, HW.out.2.2.2.2⟩
theorem lN {b W : World} {pre post : List Res} {g c j n : Nat} {l l' : List S41} {u : Value} (hn : n = l.length) (H : Sep b W (pre ++ row k41 41 (.slice (some ⟨g, 0, none⟩) n c) l :: post)) (hl : l'.length = l.length) (he : (cellsOf l).set j u = cellsOf l') (hj : j < l.length * 3) :
  Sep b (W.setCell ⟨g, j, none⟩ u) (pre ++ row k41 41 (.slice (some ⟨g, 0, none⟩) n c) l' :: post) := by
 subst hn
 refine H.upd (r' := row k41 41 (.slice (some ⟨g, 0, none⟩) l.length c) l') ((Upd.setCell W ⟨g, j, none⟩ u).mono fun k hk => ?_) ?_ (fun k hk => .inl hk)
 ·show (Value.slice (some ⟨g, 0, none⟩) l.length c).ownBlock = some k
  rw [hk]
  rfl
 ·have hr : Kd.R k41 41 W 0 (fun k => (Value.slice (some ⟨g, 0, none⟩) l.length c).ownBlock = some k) (.slice (some ⟨g, 0, none⟩) l.length c) l := H.all (sV (some ⟨g, 0, none⟩) c l) (by simp)
  have h2 := zX (Kd.uG hr (fun _ _ => trivial)) hl he hj
  rw [hl] at h2
  exact Kd.OA xX h2 (fun k hk _ => hk)
theorem sD {b w : World} {rs : List Res} {g c i : Nat} {l : List S41} (hi : i < l.length) (hn : l.length ≤ 1024) (H : aA (Sep b w (sV (some ⟨g, 0, none⟩) c l :: rs))) :
  Calls Tryz.prog 62 #[.slice (some ⟨g, 0, none⟩) l.length c, .int .i64 (i : Int), .int .i64 ((i : Int) + 1)] w fun e w' => e = .returned (.slice (some ⟨g, 0, none⟩) (l.eraseIdx i).length c) ∧ aA (Sep b w' (sV (some ⟨g, 0, none⟩) c (l.eraseIdx i) :: rs)) := by
 have hr : Kd.R k41 41 w 0 (fun k => (Value.slice (some ⟨g, 0, none⟩) l.length c).ownBlock = some k) (.slice (some ⟨g, 0, none⟩) l.length c) l := H.out.all (sV (some ⟨g, 0, none⟩) c l) (by simp)
 obtain ⟨m, hm⟩ : ∃ m, l.length = i + m + 1 := ⟨l.length - i - 1, by omega⟩
 have he : l.eraseIdx i = l.take i ++ l.drop (i + 1) := List.eraseIdx_eq_take_drop_succ l i
 have hlen : (l.take i ++ l.drop (i + 1)).length = i + m := by rw [List.length_append, List.length_take, List.length_drop]; omega
 have h := CU w 0 l g c i m hm hn (Kd.uG hr (fun _ _ => trivial))
 rw [← hm] at h
 refine h.mono ?_
 rintro e w4 ⟨rfl, h1, h2, h3⟩
 rw [he]
 refine ⟨by rw [hlen], ⟨H.out.qeo (r' := sV (some ⟨g, 0, none⟩) c (l.take i ++ l.drop (i + 1))) ⟨h2.os, h2.tape, h2.output, h2.size, fun k hk hne => h3 k fun e => hne ?_⟩ ?_ (fun k hk => .inl hk)⟩⟩
 ·show (Value.slice (some ⟨g, 0, none⟩) l.length c).ownBlock = some k
  rw [e]
  rfl
 ·have h5 := Kd.OA xX h1 (ok' := fun k => (Value.slice (some ⟨g, 0, none⟩) (l.take i ++ l.drop (i + 1)).length c).ownBlock = some k) (fun k hk _ => by rw [hlen]; exact hk)
  rw [← hlen] at h5
  exact h5
end Go.Proofs.YtanonhipicoigaaGreatDoor.UE
namespace Go.Proofs.YtanonhipicoigaaGreatDoor.Sp
open Go.RowKit Go.Proofs.YW.PrintWords Go.Proofs.YW.PrintLast Go.Proofs.YW.PrintMore
section
variable {P : Program} {ops : Array Oper} {oi : Oper} {a : Act} {Q : Exit → Act → World → Prop} {K : Act → World → Prop} {b W : World} {rs : List Res}
theorem XJ {N : Option Tmp} (hw : Region.wanted oi (yielded ops a.tmps) = true) (hN : oi.dst = N) (H : Sep b W rs) (cs : List Value) (e : TypeId) (n : Nat)
  (hrun : (execOp a.eval oi).run P W = .ok (.value (.slice (some ⟨W.heap.size, 0, none⟩) n n)) (W.alloc (.cells cs.toArray e (0, 0))))
  (h : ∀ g W', Sep b W' (box g cs e :: rs) → K (a.put N (.slice (some ⟨g, 0, none⟩) n n)) W') : if Region.wanted oi (yielded ops a.tmps) = true then Oper.wp P oi a W K Q else K (a.put N undef) W :=
 N7 hw hN hrun (h _ _ (H.alloc cs e))
theorem NV {N : Option Tmp} (hw : Region.wanted oi (yielded ops a.tmps) = true) (hN : oi.dst = N) (H : Sep b W rs) (cs : List Value) (e : TypeId)
  (hrun : (execOp a.eval oi).run P W = .ok (.value (.pointer (some ⟨W.heap.size, 0, none⟩))) (W.alloc (.cells cs.toArray e (0, 0))))
  (h : ∀ g W', Sep b W' (box g cs e :: rs) → K (a.put N (.pointer (some ⟨g, 0, none⟩))) W') : if Region.wanted oi (yielded ops a.tmps) = true then Oper.wp P oi a W K Q else K (a.put N undef) W :=
 N7 hw hN hrun (h _ _ (H.alloc cs e))
theorem AO {α : Type} (d : Kd α) (hd : Flat d) (hw : Region.wanted oi (yielded ops a.tmps) = true) (s x : Operand) (t e : TypeId) (z : Value) (bytes : Nat)
  (ho : oi.op = .call { callee := .builtin .append, args := #[s, x], argTypes := #[t, t] })
  (ht : P.underlying t = some (.slice e)) (hinfo : (P.info? e).map (fun i => (i.zero, i.size, i.bytes)) = some (some z, d.sz, bytes)) (hz : z.cells.size = d.sz) (hs0 : 0 < d.sz) (hb0 : 0 < bytes)
  (v : Value) (xs ys : List α) (A : Option Addr) (c : Nat) (hs : a.eval s = v) (hx : a.eval x = .slice A ys.length c)
  (HR : d.C W A ys.length ys) (hKM : ∀ x cs, d.K W x cs → d.M W 0 (fun _ => False) x cs) (H : Sep b W (row d e v xs :: rs)) (hl : (xs.length + ys.length) * bytes ≤ 140737488355328)
  (h : ∀ A1 c1 W', Sep b W' (row d e (.slice A1 (xs ++ ys).length c1) (xs ++ ys) :: rs) → K (a.put oi.dst (.slice A1 (xs ++ ys).length c1)) W') :
  if Region.wanted oi (yielded ops a.tmps) = true then Oper.wp P oi a W K Q else K (a.put oi.dst undef) W := by
 have hr : d.R e W 0 (fun k => v.ownBlock = some k) v xs := H.all (row d e v xs) (by simp)
 refine Kd.kW d (w0 := W) 0 hw s x t e z bytes ho ht hinfo hz hs0 hb0 v xs ys A ys.length c (fun k => v.ownBlock = some k ∨ W.heap.size ≤ k) (fun _ => False) hs hx
  (Kd.uG hr (fun k hk => .inl hk)) HR hKM (fun _ hk => hk.elim) (fun k hk => .inr hk) (Below.refl _ _) (Nat.zero_le _) hl ?_
 intro v1 w1 ho1 _ hg hat
 obtain ⟨A1, c1, rfl⟩ := Kd.dU ho1
 refine h A1 c1 w1 (H.qeo (r' := row d e (.slice A1 (xs ++ ys).length c1) (xs ++ ys)) (Upd.wQ hg) (Kd.OA hd ho1 (fun k hk _ => hk)) (fun k hk => ?_))
 have hk' : (Value.slice A1 (xs ++ ys).length c1).ownBlock = some k := hk
 rcases hat with e1 | ⟨b1, e1, hb1⟩
 ·exact .inl (show v.ownBlock = some k by rw [← e1]; exact hk')
 ·rw [e1] at hk'
  injection hk' with hk'
  exact .inr (by omega)
theorem qe1 {rest : List Oper} (hgd : oi.guard = none) (H : aA (Sep b W rs)) (cs : List Value) (e : TypeId) (n : Nat)
  (hrun : (execOp a.eval oi).run P W = .ok (.value (.slice (some ⟨W.heap.size, 0, none⟩) n n)) (W.alloc (.cells cs.toArray e (0, 0))))
  (h : ∀ g W', aA (Sep b W' (box g cs e :: rs)) → wpList P ops Q rest (a.put oi.dst (.slice (some ⟨g, 0, none⟩) n n)) W') : wpList P ops Q (oi :: rest) a W :=
 Kd.uS hgd hrun (h _ _ ⟨H.out.alloc cs e⟩)
theorem qe2 {α : Type} {d : Kd α} {e : TypeId} {g : Nat} {cs : List Value} {l : List α} (hr : fH (d.M W 0 (fun k => (k = g) ∧ some k ≠ (Value.slice (some ⟨g, 0, none⟩) l.length l.length).ownBlock)) d.sz l cs) (hlen : l.length ≤ 1000000) (H : Sep b W (box g cs e :: rs)) : Sep b W (row d e (.slice (some ⟨g, 0, none⟩) l.length l.length) l :: rs) := by
 have hb : W.heap[g]? = some (.cells cs.toArray e (0, 0)) := H.lG (g := g) aH
 refine H.qeo (r' := row d e (.slice (some ⟨g, 0, none⟩) l.length l.length) l) (Upd.refl _ _) ?_ (fun k hk => .inl ?_)
 ·refine ⟨fun k hk => hk, cs, ⟨hr.1, .inr ⟨g, l.length, cs.toArray, rfl, Nat.zero_le _, hb, Nat.le_refl _, by unfold maxLen; omega, by simpa using hr.1, ?_⟩⟩, hr.uQ (fun p c hp => d.jD (fun k hk => ⟨by rw [hk.1]; rfl, hk.2⟩) hp)⟩
  rw [← hr.1]
  simp
 ·have : some g = some k := hk
  injection this with this
  exact this.symm
end
end Go.Proofs.YtanonhipicoigaaGreatDoor.Sp
namespace Go.Proofs.YtanonhipicoigaaGreatDoor.U
open Go.Proofs.YtanonhipicoigaaGreatDoor.UE (lN sD)
open Go.RowKit Go.Proofs.YW.PrintWords Go.Proofs.YW.PrintLast Go.Proofs.YW.PrintMore Go.Proofs.YtanonhipicoigaaGreatDoor.Sp Go.Proofs.YtanonhipicoigaaGreatDoor.eP
def lY (p : S41 → Bool) : List S41 → Option Nat
 | [] => none
 | x :: r => if p x = true then some 0 else (lY p r).map (· + 1)
def J7 (p : S41 → Bool) (l : List S41) : Int := match lY p l with | some i => (i : Int) | none => -1
theorem xY {p : S41 → Bool} : ∀ {l : List S41} {i : Nat}, lY p l = some i → ∃ x, l[i]? = some x ∧ p x = true ∧ ∀ j y, j < i → l[j]? = some y → p y = false
 | [], i, h => by cases h
 | x :: r, i, h => by
  rw [lY] at h
  split at h
  ·rename_i hp
   injection h with h
   subst h
   exact ⟨x, rfl, hp, fun j y hj => by omega⟩
  ·rename_i hp
   cases hr : lY p r with
   | none => rw [hr] at h; cases h
   | some k =>
    rw [hr] at h
    have h : k + 1 = i := by simpa using h
    subst h
    obtain ⟨y, h1, h2, h3⟩ := xY hr
    refine ⟨y, h1, h2, fun j z hj hz => ?_⟩
    cases j with
    | zero =>
     have : x = z := by simpa using hz
     rw [← this]
     simpa using hp
    | succ j => exact h3 j z (by omega) (by simpa using hz)
theorem VA {p : S41 → Bool} {l : List S41} {i : Nat} (h : lY p l = some i) : i < l.length := by
 obtain ⟨x, hx, _⟩ := xY h
 exact (List.getElem?_eq_some_iff.1 hx).1
theorem qjN {w : World} {ad : Addr} {n i : Nat} {l : List S41} {x : S41} (h : Kd.C k41 w (some ad) n l) (hx : l[i]? = some x) :
  w.cell? (ad.add (i * 3)) = some (.int .u64 x.f0) ∧ w.cell? ⟨(ad.add (i * 3)).block, (ad.add (i * 3)).off + 1, none⟩ = some (.string x.f1) ∧ w.cell? ⟨(ad.add (i * 3)).block, (ad.add (i * 3)).off + 2, none⟩ = some (.bool x.f2) := by
 have hi := (List.getElem?_eq_some_iff.1 hx).1
 obtain ⟨ad2, c, e, _, hK, hc0⟩ := Kd.zW h z41 (i : Int) (by omega) (by have := h.1; omega)
 injection e with e
 subst e
 have hg : l.getD i z41 = x := by simp [List.getD, hx]
 simp only [Int.toNat_natCast] at hK hc0
 rw [hg] at hK
 have hc : ∀ j u, c[j]? = some u → w.cell? (ad.add (i * 3 + j)) = some u := hc0
 obtain rfl := F7 hK
 exact ⟨hc 0 _ rfl, by rw [← lM _ _ 1 (by omega)]; exact hc 1 _ rfl, by rw [← lM _ _ 2 (by omega)]; exact hc 2 _ rfl⟩
theorem qgU {w : World} {A : Option Addr} {n : Nat} {l : List S41} (h : Kd.C k41 w A n l) (hn : 0 < n) : ∃ ad, A = some ad := by
 obtain ⟨ad2, c, e, _⟩ := Kd.zW h z41 0 (by omega) (by omega)
 exact ⟨ad2, e⟩
set_option maxHeartbeats 4000000 in
theorem RV (p : S41 → Bool) (fdo : Nat) (lb : List Value) (B : Option Addr) (d : Nat) (es : List S41) (w : World) (hre : Kd.C k41 w B es.length es) (he : ∀ args w, (callFunc fdo args).run Tryz.prog w = .ok (.enter fdo args) w)
  (hp : ∀ (x : S41) (w' : World), Below w.heap.size w w' → Calls Tryz.prog fdo (.agg #[.int .u64 x.f0, .string x.f1, .bool x.f2] :: lb).toArray w' fun e w'' => e = .returned (.bool (p x)) ∧ Below w'.heap.size w' w'') :
  Calls Tryz.prog 57 #[.slice B es.length d, .func (.func fdo) #[] lb.toArray] w fun e w' => e = .returned (.int .i64 (J7 p es)) ∧ Below w.heap.size w w' := by
 have HRe := aA.mk hre
 have HP := aA.mk hp
 have HL : aA (es.length ≤ 9223372036854775807) := ⟨Kd.qao hre⟩
 clear hre hp
 have HB := aA.mk (Below.refl w.heap.size w)
 go_enter Tryz.func57, Tryz.ntmps57
 go_wp2
 go_loopw [4, 5, 8] (fun v4 v5 v8 wr => ∃ i : Nat, v8 = .int .i64 (i : Int) ∧ i ≤ es.length ∧ aA (lY p es = (lY p (es.drop i)).map (· + i)) ∧ aA (Below w.heap.size w wr)) (fun _ _ v8 _ => es.length - (intOf v8).toNat)
 case atStart => exact ⟨0, rfl, Nat.zero_le _, ⟨by simp⟩, HB⟩
 case round =>
  clear HB
  obtain ⟨i, rfl, hi, HI, HB⟩ := hrel
  by_cases hil : i < es.length
  ·obtain ⟨x, hx⟩ : ∃ x, es[i]? = some x := ⟨_, List.getElem?_eq_getElem hil⟩
   have hd : es.drop i = x :: es.drop (i + 1) := by
    rw [List.drop_eq_getElem_cons hil]
    congr 1
    rw [List.getElem?_eq_getElem hil] at hx
    exact Option.some.inj hx
   have HD := aA.mk hd
   obtain ⟨ad, e1⟩ := qgU HRe.out (by omega)
   subst e1
   obtain ⟨q0, q1, q2⟩ := qjN (Kd.fC HRe.out HB.out) hx
   have hi0 : (0 : Int) ≤ (i : Int) := by omega
   have hi1 : (i : Int) < (es.length : Int) := by omega
   have hw3 : wrap64 ((i : Int) + 1) = ((i + 1 : Nat) : Int) := by
    have := HL.out
    unfold wrap64
    omega
   clear hd hx
   go_wp2_with fail
   refine ((HP.out x _ HB.out).mono ?_)
   rintro e w5 ⟨rfl, hb⟩
   have n0_ := aA.mk (bC HB.out hb)
   clear HB q0 q1 q2 hb
   have HB := n0_
   clear n0_
   cases hpx : p x
   ·go_wp2_with fail
    try rw [hw3]
    refine ⟨⟨i + 1, rfl, by omega, ⟨?_⟩, HB⟩, by simp [intOf]; omega⟩
    rw [HI.out, HD.out, lY, if_neg (by rw [hpx]; simp), Option.map_map]
    congr 1
    funext k
    show k + 1 + i = k + (i + 1)
    omega
   ·have hres : J7 p es = (i : Int) := by
     rw [J7, HI.out, HD.out, lY, if_pos hpx]
     simp
    go_wp2_with fail
    go_ret
    exact ⟨by first | rfl | (rw [hres]; rfl), HB.out⟩
  ·have hie : i = es.length := by omega
   subst hie
   have hres : J7 p es = -1 := by
    rw [J7, HI.out, List.drop_length]
    rfl
   have hin : ¬ (es.length : Int) < (es.length : Int) := by omega
   go_wp2_with fail
   go_ret
   exact ⟨by first | rfl | (rw [hres]; rfl), HB.out⟩
set_option maxHeartbeats 4000000 in
theorem qgf (x : S41) (w : World) : Calls Tryz.prog 58 #[.agg #[.int .u64 x.f0, .string x.f1, .bool x.f2]] w fun e w' => e = .returned (.bool (!x.f2)) ∧ Below w.heap.size w w' := by
 have H := aA.mk (Sep.start w)
 go_enter Tryz.func58, Tryz.ntmps58
 go_wp2_with (first
 |((with_reducible refine aN (N := 1) rfl ?_);
   refine aX rfl H (cs := [.int .u64 x.f0, .string x.f1, .bool x.f2]) (t := 41) ?hr ?_;
   (case hr => first | (go_simp; done) | (go_simp; rfl));
   intro gx wd1 n_;
   simp only [Act.put, zA, zZ, zS];
   clear H;
   have H := n_;
   clear n_;
   have c_x := H.out.cell (g := gx) aH)
 |fail)
 go_ret
 exact ⟨rfl, H.out.below⟩
set_option maxHeartbeats 4000000 in
theorem qe3 (x : S41) (g1 : Nat) (q : Int) (w : World) (hb : w.heap[g1]? = some (.cells #[.int .u64 q] 28 (0, 0))) : Calls Tryz.prog 102 #[.agg #[.int .u64 x.f0, .string x.f1, .bool x.f2], .pointer (some ⟨g1, 0, none⟩)] w fun e w' => e = .returned (.bool (x.f0 == q && x.f2)) ∧ Below w.heap.size w w' := by
 have HQ := aA.mk hb
 clear hb
 have H := aA.mk (Sep.start w)
 go_enter Tryz.func102, Tryz.ntmps102
 by_cases hq : x.f0 = q
 ·
  have hqb : (x.f0 == q) = true := by simpa using hq
  clear hq
  go_wp2_with (first
 |((with_reducible refine aN (N := 2) rfl ?_);
   refine aX rfl H (cs := [.int .u64 x.f0, .string x.f1, .bool x.f2]) (t := 41) ?hr ?_;
   (case hr => first | (go_simp; done) | (go_simp; rfl));
   intro gx wd2 n_;
   simp only [Act.put, zA, zZ, zS];
   clear H;
   have H := n_;
   clear n_;
   have c_x := H.out.cell (g := gx) aH;
   have c_q := aG (bG HQ.out H.out.below) 0)
 |fail)
  go_ret
  refine ⟨?_, H.out.below⟩
  simp [hqb]
 ·
  have hqb : (x.f0 == q) = false := by simpa using hq
  clear hq
  go_wp2_with (first
 |((with_reducible refine aN (N := 2) rfl ?_);
   refine aX rfl H (cs := [.int .u64 x.f0, .string x.f1, .bool x.f2]) (t := 41) ?hr ?_;
   (case hr => first | (go_simp; done) | (go_simp; rfl));
   intro gx wd3 n_;
   simp only [Act.put, zA, zZ, zS];
   clear H;
   have H := n_;
   clear n_;
   have c_x := H.out.cell (g := gx) aH;
   have c_q := aG (bG HQ.out H.out.below) 0)
 |fail)
  go_ret
  refine ⟨?_, H.out.below⟩
  simp [hqb]
def iG (q : Int) (x : S41) : Bool := x.f0 == q && x.f2
def ZM (o : Option Nat) (e : Ending) : Prop := (∃ i : Nat, o = some i ∧ e = .returned (.int .i64 (i : Int))) ∨ (o = none ∧ e = .panicked [{ v := .iface 34 (.int .i64 19), recovered := false }])
set_option maxHeartbeats 4000000 in
theorem DJ {b w : World} {rs : List Res} (gl : Nat) (A : Option Addr) (c : Nat) (B : Option Addr) (d : Nat) (Q : Qu) (q : Int) (H0 : aA (Sep b w (box gl (qc A c B d Q) 101 :: oK A c Q.L.l :: sV B d Q.es :: rs))) :
  Calls Tryz.prog 60 #[.pointer (some ⟨gl, 0, none⟩), .int .u64 q] w fun e w' => ZM (lY (iG q) Q.es) e ∧ aA (Sep b w' (box gl (qc A c B d Q) 101 :: oK A c Q.L.l :: sV B d Q.es :: rs)) := by
 have H : aA (Sep b w (box gl [.slice A Q.L.l.length c, .bool Q.L.dn, .int .i64 Q.L.fu, .int .i64 Q.L.fa, .int .i64 Q.L.size, .int .u64 Q.L.fr, .int .u64 Q.L.nx, .bool Q.L.br, .slice B Q.es.length d, .int .i64 Q.most] 101 :: row k67 67 (.slice A (Q.L.l).length c) Q.L.l :: row k41 41 (.slice B (Q.es).length d) Q.es :: rs)) := H0
 clear H0
 have c_l := H.out.cell (g := gl) aH
 have hmf : ∀ (fn : Fn) (first cap : Array Value) (w : World), (Instr.makeFunc fn first cap).run Tryz.prog w = .ok (.func fn first cap) w := fun _ _ _ _ => rfl
 go_enter Tryz.func60, Tryz.ntmps60
 go_wp2_with (first
 |((with_reducible refine aN (N := 3) rfl ?_);
   refine aX rfl H (cs := [.int .u64 q]) (t := 28) ?hr ?_;
   (case hr => first | (go_simp; done) | (go_simp; rfl));
   intro gs wd4 n_;
   simp only [Act.put, zA, zZ, zS];
   clear H c_l;
   have H := n_;
   clear n_;
   have c_s := H.out.cell (g := gs) aH;
   have c_l := H.out.cell (g := gl) mem1)
 |fail)
 refine ((RV (iG q) 102 [.pointer (some ⟨gs, 0, none⟩)] B d Q.es _ (H.out.reads mem3).2.2 (fun args w => by simp [go_sem]) (fun x w' hb => qe3 x gs q w' (bG (H.out.lG (g := gs) aH) hb))).mono ?_)
 rintro e wd5 ⟨rfl, hb_⟩
 have n_ : aA (Sep b wd5 (box gs [.int .u64 q] 28 :: box gl [.slice A Q.L.l.length c, .bool Q.L.dn, .int .i64 Q.L.fu, .int .i64 Q.L.fa, .int .i64 Q.L.size, .int .u64 Q.L.fr, .int .u64 Q.L.nx, .bool Q.L.br, .slice B Q.es.length d, .int .i64 Q.most] 101 :: row k67 67 (.slice A (Q.L.l).length c) Q.L.l :: row k41 41 (.slice B (Q.es).length d) Q.es :: rs)) := ⟨H.out.step hb_⟩
 clear H c_s c_l
 have H := n_
 clear n_
 have c_s := H.out.cell (g := gs) aH
 have c_l := H.out.cell (g := gl) mem1
 clear hb_
 cases hix : lY (iG q) Q.es with
 | none =>
  have hi : J7 (iG q) Q.es = -1 := by rw [J7, hix]
  rw [hi]
  go_wp2_with fail
  refine (vH 19 _).mono ?_
  rintro e w_ ⟨rfl, rfl⟩
  exact ⟨rfl, .inr ⟨hix, rfl⟩, ⟨(Sep.dW H.out)⟩⟩
 | some i =>
  have hi : J7 (iG q) Q.es = (i : Int) := by rw [J7, hix]
  rw [hi]
  have hi0 : (0 : Int) ≤ (i : Int) := by omega
  go_wp2_with fail
  refine (rZ 19 _).mono ?_
  rintro e w_ ⟨rfl, rfl⟩
  go_wp2_with fail
  go_ret
  exact ⟨.inl ⟨i, hix, rfl⟩, ⟨(Sep.dW H.out)⟩⟩
theorem qe4 (W : World) (ok : Nat → Prop) (x : Int) : fH ((Kd.int .u8).M W 0 ok) (Kd.int .u8).sz [x] [.int .u8 x] := by
 refine ⟨rfl, fun j p hj => ?_⟩
 have hj0 : j = 0 := by
  have := (List.getElem?_eq_some_iff.1 hj).1
  simpa using this
 subst hj0
 have : x = p := by simpa using hj
 subst this
 rfl
def qe5 (n : Int) : List Int := 65 :: rD n 8
def kP (n : Int) : ByteArray := strOfNums (qe5 n)
theorem J8 (n : Int) : (kP n).size = 9 := by rw [kP, strOfNums_size]; simp [qe5, rD]
set_option maxHeartbeats 4000000 in
theorem qcq (n : Int) (w : World) (hn : 0 ≤ n) (hn2 : n < 18446744073709551616) : Calls Tryz.prog 61 #[.int .u64 n] w fun e w' => e = .returned (.string (kP n)) ∧ Below w.heap.size w w' := by
 have H := aA.mk (Sep.start w)
 go_enter Tryz.func61, Tryz.ntmps61
 go_wp2_with (first
 |((with_reducible refine aN (N := 5) rfl ?_);
   refine qe1 rfl H [.int .u8 65] 5 1 ?hr ?_;
   (case hr => first | (go_simp; done) | (go_simp; rfl));
   intro go wd6 m_;
   have n_ := aA.mk (qe2 (d := Kd.int .u8) (l := [(65 : Int)]) (qe4 _ _ _) (by decide) m_.out);
   clear m_;
   simp only [Act.put, zA, zZ, zS];
   clear H;
   have H := n_;
   clear n_)
 |fail)
 go_loopw [3, 4] (fun v3 v4 wr => ∃ (k : Nat) (A : Option Addr) (c : Nat) (ys : List Int), v3 = .slice A ys.length c ∧ v4 = .int .i64 ((8 * k : Nat) : Int) ∧ k ≤ 8 ∧ ys.length ≤ 9 ∧ aA (ys = 65 :: rD n k) ∧ aA (Sep w wr [row (Kd.int .u8) 5 (.slice A ys.length c) ys]))
  (fun _ v4 _ => 64 - (intOf v4).toNat)
 case atStart => exact ⟨0, some ⟨go, 0, none⟩, 1, [65], rfl, rfl, by omega, by decide, ⟨rfl⟩, H⟩
 case round =>
  clear H
  obtain ⟨k, A, c, ys, rfl, rfl, hk, hy, HY, H⟩ := hrel
  by_cases hlt : k < 8
  ·have hk2 : ((8 * k : Nat) : Int) < 64 := by omega
   have hk0 : (0 : Int) ≤ ((8 * k : Nat) : Int) := by omega
   have hw3 : wrap64 (((8 * k : Nat) : Int) + 8) = ((8 * (k + 1) : Nat) : Int) := by
    unfold wrap64
    omega
   have hy2 : ys.length < 9 := by rw [HY.out]; simp [rD]; omega
   go_wp2_with (first
 |((with_reducible refine iQ (b := .append) (xs := #[.tmp 10, .tmp 15]) rfl ?_); at_builtin;
   refine V3 (Kd.int .u8) (VY _) rfl (.tmp 10) (.tmp 15) 147 5 (.int .u8 0) 1 rfl Tryz.underlying147 info5 rfl (by decide) (by omega) _ ys (n / 2 ^ (8 * k) % 256) [.int .u8 (n / 2 ^ (8 * k) % 256)] rfl rfl ?hp H ?hl ?_;
   (case hp => rfl); (case hl => omega);
   intro A1 c1 w1 H1; clear H; have H := H1; clear H1;
   simp only [Act.put, zA, zZ, zS])
 |fail)
   try rw [hw3]
   refine ⟨⟨k + 1, A1, c1, ys ++ [n / 2 ^ (8 * k) % 256], ?_, rfl, by omega, ?_, ⟨by rw [HY.out, RD]; rfl⟩, H⟩, by simp [intOf]; omega⟩
   ·rw [List.length_append, List.length_singleton]
   ·rw [List.length_append, List.length_singleton]
    omega
  ·obtain rfl : k = 8 := by omega
   have hs2 := Kd.wR (P := Tryz.prog) (src := 147) (dst := 9) (e := 5) (c := c) Tryz.underlying147 Tryz.underlying5 Tryz.underlying9 (H.out.reads aH).2.2
   go_wp2_with fail
   go_ret
   exact ⟨by rw [HY.out]; rfl, H.out.below⟩
end Go.Proofs.YtanonhipicoigaaGreatDoor.U
namespace Go.Proofs.YtanonhipicoigaaGreatDoor.U
open Go.RowKit Go.Proofs.YW.PrintWords Go.Proofs.YW.PrintLast Go.Proofs.YW.PrintMore
attribute [local go_sem] iJ iK jP jQ gX gY iW iY
mutual
def bK.j0 : Nat → Bool → List (S67) → Bool → Int → Int → Int → Int → Int → Bool → List (S41) → Int → Option (Int)
 | 0, _, _, _, _, _, _, _, _, _, _, _ => none
 | k + 1, x3, yL, yM, yN, yO, yP, vX, vY, yQ, tX, yR => bK.l0 k x3 vX tX (tX.length : Int) 0 yL yM yN yO yP vX vY yQ tX yR
def bK.l0 : Nat → Bool → Int → List (S41) → Int → Int → List (S67) → Bool → Int → Int → Int → Int → Int → Bool → List (S41) → Int → Option (Int)
 | 0, _, _, _, _, _, _, _, _, _, _, _, _, _, _, _ => none
 | k + 1, x3, x4, x29, x30, x31, yL, yM, yN, yO, yP, vX, vY, yQ, tX, yR => if x31 < x30 then (if 0 ≤ x31 then (if x31 < (x29.length : Int) then (if x3 = true then (if (((dP x29 x31).f1).size : Int) < 65536 then (if ((dP x29 x31).f0) ≥ x4 then (bK.l0 k (decide (((dP x29 x31).f0) < vY)) (IntKind.u64.wrap (((dP x29 x31).f0) + 1)) x29 x30 (wrap64 (x31 + 1)) yL yM yN yO yP vX vY yQ tX yR) else (bK.l0 k false (IntKind.u64.wrap (((dP x29 x31).f0) + 1)) x29 x30 (wrap64 (x31 + 1)) yL yM yN yO yP vX vY yQ tX yR)) else (bK.l0 k false (IntKind.u64.wrap (((dP x29 x31).f0) + 1)) x29 x30 (wrap64 (x31 + 1)) yL yM yN yO yP vX vY yQ tX yR)) else (bK.l0 k false (IntKind.u64.wrap (((dP x29 x31).f0) + 1)) x29 x30 (wrap64 (x31 + 1)) yL yM yN yO yP vX vY yQ tX yR)) else (none)) else (none)) else (if x3 = true then (some 0) else (some 6))
end
def bK.f (k : Nat) (aZ : List (S67)) (bW : Bool) (bY : Int) (bZ : Int) (eU : Int) (eY : Int) (eF : Int) (fG : Bool) (eH : List (S41)) (iM : Int) : Option (Int) := (fK.f aZ bW bY bZ eU eY eF fG).bind fun t196 => (if t196 = 0 then (if iM ≥ 1 then (bK.j0 k (decide ((mx iM (eH.length : Int)) ≤ 1024)) aZ bW bY bZ eU eY eF fG eH iM) else (bK.j0 k false aZ bW bY bZ eU eY eF fG eH iM)) else (bK.j0 k false aZ bW bY bZ eU eY eF fG eH iM))
set_option maxHeartbeats 8000000 in
set_option maxRecDepth 100000 in
theorem bK.calls (k : Nat) (dR : Option Addr) (dS : Nat) (aZ : List (S67)) (bW : Bool) (bY : Int) (bZ : Int) (eU : Int) (eY : Int) (eF : Int) (fG : Bool) (GY : Option Addr) (qG : Nat) (eH : List (S41)) (iM : Int) (r : Int) (w : World) (jS : Kd.C k67 w dR aZ.length aZ) (lJ : aZ.length ≤ dS) (qfx : Kd.C k41 w GY eH.length eH) (qfy : eH.length ≤ qG) (h : bK.f k aZ bW bY bZ eU eY eF fG eH iM = some r) :
    Calls Tryz.prog 39 #[.agg #[.slice dR aZ.length dS, .bool bW, .int .i64 bY, .int .i64 bZ, .int .i64 eU, .int .u64 eY, .int .u64 eF, .bool fG, .slice GY eH.length qG, .int .i64 iM]] w fun e w' => e = .returned (.int .i64 r) ∧ Below w.heap.size w w' := by
  have qkt := Tryz.underlying33
  have qjv := Tryz.underlying30
  have qjO := Tryz.underlying41
  have AB := aA.mk jS
  have AL := aA.mk lJ
  clear jS lJ
  have qaL := aA.mk qfx
  have qj6 := aA.mk qfy
  clear qfx qfy
  have HB := aA.mk (Below.refl w.heap.size w)
  have H : ((fK.f aZ bW bY bZ eU eY eF fG).bind fun t196 => (if t196 = 0 then (if iM ≥ 1 then (bK.j0 k (decide ((mx iM (eH.length : Int)) ≤ 1024)) aZ bW bY bZ eU eY eF fG eH iM) else (bK.j0 k false aZ bW bY bZ eU eY eF fG eH iM)) else (bK.j0 k false aZ bW bY bZ eU eY eF fG eH iM))) = some r := h
  clear h
  have HC2 := aA.mk H
  clear H
  go_enter Tryz.func39, Tryz.ntmps39
  go_upto_region 1 with (first | ((with_reducible refine aN (N := 1) rfl ?_); (try (refine sK (by rfl) ?_; dsimp only)); refine dH ?hg (N := 1) ?hd (cs := #[.slice dR aZ.length dS, .bool bW, .int .i64 bY, .int .i64 bZ, .int .i64 eU, .int .u64 eY, .int .u64 eF, .bool fG, .slice GY eH.length qG, .int .i64 iM]) (t := 33) ?hr ?_; (case hd => rfl); (case hg => rfl); (case hr => first | (go_simp; done) | (go_simp; rfl)); intro dA hg w3 hbox hb; have n0_ := aA.mk (bC (by repeat (first | (with_reducible first | exact HB.out | apply aT | apply aU | apply aY) | exact HB.out)) hb); have n1_ := aA.mk (hbox); have n2_ := aA.mk ((by rw [hg]; exact (dX (by repeat (first | (with_reducible first | exact HB.out | apply aT | apply aU | apply aY) | exact HB.out))) : w.heap.size ≤ dA)); have n3_ := aA.mk ((by rw [hg]; exact (dX (by repeat (first | (with_reducible first | exact HB.out | apply aT | apply aU | apply aY) | exact HB.out))) : w.heap.size ≤ dA)); clear HB; have HB := n0_; have bF := n1_; have qj7 := n2_; have lK := n3_; clear n0_ n1_ n2_ n3_; clear hb hbox hg))
  (try simp only [Act.put, zA, zZ, zS])
  go_cut [3] (fun v3 wc => ∃ (kq : Nat) (qe6 : Bool), v3 = .bool qe6 ∧ aA (bK.j0 kq qe6 aZ bW bY bZ eU eY eF fG eH iM = some r) ∧ aA (kq ≤ k) ∧ aA (wc.heap[dA]? = some (.cells #[(.slice dR aZ.length dS), .bool bW, .int .i64 bY, .int .i64 bZ, .int .i64 eU, .int .u64 eY, .int .u64 eF, .bool fG, (.slice GY eH.length qG), .int .i64 iM] 33 (0, 0))) ∧ aA (Below w.heap.size w wc))
  case first =>
    have H := HC2.out
    clear HC2
    replace H := Option.bind_eq_some_iff.mp H
    obtain ⟨t196, A40, H⟩ := H
    replace H : (if t196 = 0 then (if iM ≥ 1 then (bK.j0 k (decide ((mx iM (eH.length : Int)) ≤ 1024)) aZ bW bY bZ eU eY eF fG eH iM) else (bK.j0 k false aZ bW bY bZ eU eY eF fG eH iM)) else (bK.j0 k false aZ bW bY bZ eU eY eF fG eH iM)) = some r := H
    have A4 := aA.mk A40
    clear A40
    by_cases c5 : t196 = 0
    · rw [if_pos c5] at H
      have XK : (t196 == 0) = true := beq_iff_eq.mpr c5
      have qgg : (t196 != 0) = false := bne_eq_false_iff_eq.mpr c5
      clear c5
      (first | rw [XK] | (simp only [aI, aJ]; rw [XK]) | skip)
      by_cases c6 : iM ≥ 1
      · rw [if_pos c6] at H
        have qe7 : decide (1 ≤ iM) = true := decide_eq_true c6
        clear c6
        obtain ⟨ji7, qcr⟩ : ∃ j_ : Int, (mx iM (eH.length : Int)) = j_ := ⟨_, rfl⟩
        replace H : (bK.j0 k (decide ((ji7) ≤ 1024)) aZ bW bY bZ eU eY eF fG eH iM) = some r := by first | (rw [qcr] at H; exact H) | (simp only [qcr] at H ⊢; exact H)
        (try rw [qcr] at A4)
        (try (have qj8 : 0 ≤ ji7 := by (rw [← qcr]; unfold mx; (repeat' split) <;> omega)))
        (try (have qj9 : 0 ≤ ji7 := by omega))
        have qka : (if iM < (eH.length : Int) then (eH.length : Int) else iM) = ji7 := qcr
        have H' := aA.mk H
        clear H
        have Y5 : w3.cell? ⟨dA, 0, none⟩ = some (.slice dR aZ.length dS) := (aG bF.out 0).trans rfl
        have Y6 : w3.cell? ⟨dA, 1, none⟩ = some (.bool bW) := (aG bF.out 1).trans rfl
        have Y7 : w3.cell? ⟨dA, 2, none⟩ = some (.int .i64 bY) := (aG bF.out 2).trans rfl
        have Y8 : w3.cell? ⟨dA, 3, none⟩ = some (.int .i64 bZ) := (aG bF.out 3).trans rfl
        have Y9 : w3.cell? ⟨dA, 4, none⟩ = some (.int .i64 eU) := (aG bF.out 4).trans rfl
        have ZA : w3.cell? ⟨dA, 5, none⟩ = some (.int .u64 eY) := (aG bF.out 5).trans rfl
        have ZB : w3.cell? ⟨dA, 6, none⟩ = some (.int .u64 eF) := (aG bF.out 6).trans rfl
        have ZC : w3.cell? ⟨dA, 7, none⟩ = some (.bool fG) := (aG bF.out 7).trans rfl
        have qdO : w3.cell? ⟨dA, 8, none⟩ = some (.slice GY eH.length qG) := (aG bF.out 8).trans rfl
        have qdP : w3.cell? ⟨dA, 9, none⟩ = some (.int .i64 iM) := (aG bF.out 9).trans rfl
        have ZE := aC bF.out 0
        have ZF := aC bF.out 1
        have ZG := aC bF.out 2
        have ZH := aC bF.out 3
        have ZI := aC bF.out 4
        have ZJ := aC bF.out 5
        have ZK := aC bF.out 6
        have ZL := aC bF.out 7
        have qdQ := aC bF.out 8
        have qdR := aC bF.out 9
        go_wp2_with (first | ((with_reducible refine jX (f := 33) rfl ?_); refine vN (some 9) rfl rfl Tryz.func33 (by kernel_rfl) rfl #[.agg #[.slice dR aZ.length dS, .bool bW, .int .i64 bY, .int .i64 bZ, .int .i64 eU, .int .u64 eY, .int .u64 eF, .bool fG]] rfl (by (try simp only [List.map_toArray, List.map_cons, List.map_nil]); first | done | rfl | (simp only [List.length_drop, List.length_take]; rfl)) ?_; (with_reducible refine (fK.calls _ _ aZ bW bY bZ eU eY eF fG t196 _ ?qW ?qX A4.out).mono ?_); (case qW => repeat (first | exact (Kd.fC AB.out HB.out) | (with_reducible refine Kd.rP ?_ _) | (with_reducible refine Kd.rQ ?_ _) | (with_reducible refine Kd.vM ?_))); (case qX => exact AL.out); rintro e w9 ⟨rfl, hb⟩; refine ⟨_, rfl, ?_⟩; have n0_ := aA.mk (bG (g := dA) (o := .cells #[.slice dR aZ.length dS, .bool bW, .int .i64 bY, .int .i64 bZ, .int .i64 eU, .int .u64 eY, .int .u64 eF, .bool fG, .slice GY eH.length qG, .int .i64 iM] 33 (0, 0)) (by (with_reducible repeat (first | refine bU ?_ _ | refine bJ ?_ | refine bD ?_ _)); exact bF.out) hb); have n1_ := aA.mk (bC (by repeat (first | (with_reducible first | exact HB.out | apply aT | apply aU | apply aY | refine bH ?_ lK.out) | exact HB.out)) hb); clear bF; clear HB; have bF := n0_; have HB := n1_; clear n0_ n1_; (try clear hb); (try clear hb2); (try clear hk); (try clear hi); have qaM : w9.cell? ⟨dA, 0, none⟩ = some (.slice dR aZ.length dS) := (aG bF.out 0).trans rfl; have qaN : w9.cell? ⟨dA, 1, none⟩ = some (.bool bW) := (aG bF.out 1).trans rfl; have qaO : w9.cell? ⟨dA, 2, none⟩ = some (.int .i64 bY) := (aG bF.out 2).trans rfl; have qaP : w9.cell? ⟨dA, 3, none⟩ = some (.int .i64 bZ) := (aG bF.out 3).trans rfl; have qaQ : w9.cell? ⟨dA, 4, none⟩ = some (.int .i64 eU) := (aG bF.out 4).trans rfl; have qaR : w9.cell? ⟨dA, 5, none⟩ = some (.int .u64 eY) := (aG bF.out 5).trans rfl; have qaS : w9.cell? ⟨dA, 6, none⟩ = some (.int .u64 eF) := (aG bF.out 6).trans rfl; have qaT : w9.cell? ⟨dA, 7, none⟩ = some (.bool fG) := (aG bF.out 7).trans rfl; have qaU : w9.cell? ⟨dA, 8, none⟩ = some (.slice GY eH.length qG) := (aG bF.out 8).trans rfl; have qaV : w9.cell? ⟨dA, 9, none⟩ = some (.int .i64 iM) := (aG bF.out 9).trans rfl; have qaW := aC bF.out 0; have qaX := aC bF.out 1; have qaY := aC bF.out 2; have qaZ := aC bF.out 3; have qa1 := aC bF.out 4; have qa3 := aC bF.out 5; have qa4 := aC bF.out 6; have qa5 := aC bF.out 7; have qa6 := aC bF.out 8; have qa7 := aC bF.out 9))
        go_meet
        case rel => exact ⟨_, (decide ((ji7) ≤ 1024)), (by first | rfl | (simp; done) | (simp only [← qcr] <;> (first | rfl | simp)) | (simp [*]; done)), H', ⟨by first | omega | exact Nat.le_refl _⟩, ⟨by (with_reducible repeat (first | refine bU ?_ _ | refine bJ ?_ | refine bD ?_ _)); exact bF.out⟩, ⟨by repeat (first | (with_reducible first | exact HB.out | apply aT | apply aU | apply aY | refine bH ?_ lK.out) | exact HB.out)⟩⟩
      · rw [if_neg c6] at H
        have qe7 : decide (1 ≤ iM) = false := decide_eq_false c6
        clear c6
        have H' := aA.mk H
        clear H
        have TT : w3.cell? ⟨dA, 0, none⟩ = some (.slice dR aZ.length dS) := (aG bF.out 0).trans rfl
        have TU : w3.cell? ⟨dA, 1, none⟩ = some (.bool bW) := (aG bF.out 1).trans rfl
        have TV : w3.cell? ⟨dA, 2, none⟩ = some (.int .i64 bY) := (aG bF.out 2).trans rfl
        have TW : w3.cell? ⟨dA, 3, none⟩ = some (.int .i64 bZ) := (aG bF.out 3).trans rfl
        have TY : w3.cell? ⟨dA, 4, none⟩ = some (.int .i64 eU) := (aG bF.out 4).trans rfl
        have UA : w3.cell? ⟨dA, 5, none⟩ = some (.int .u64 eY) := (aG bF.out 5).trans rfl
        have UC : w3.cell? ⟨dA, 6, none⟩ = some (.int .u64 eF) := (aG bF.out 6).trans rfl
        have UD : w3.cell? ⟨dA, 7, none⟩ = some (.bool fG) := (aG bF.out 7).trans rfl
        have qa8 : w3.cell? ⟨dA, 8, none⟩ = some (.slice GY eH.length qG) := (aG bF.out 8).trans rfl
        have qa9 : w3.cell? ⟨dA, 9, none⟩ = some (.int .i64 iM) := (aG bF.out 9).trans rfl
        have UF := aC bF.out 0
        have UG := aC bF.out 1
        have UH := aC bF.out 2
        have UJ := aC bF.out 3
        have UK := aC bF.out 4
        have UL := aC bF.out 5
        have UM := aC bF.out 6
        have UN := aC bF.out 7
        have qba := aC bF.out 8
        have qbb := aC bF.out 9
        go_wp2_with (first | ((with_reducible refine jX (f := 33) rfl ?_); refine vN (some 9) rfl rfl Tryz.func33 (by kernel_rfl) rfl #[.agg #[.slice dR aZ.length dS, .bool bW, .int .i64 bY, .int .i64 bZ, .int .i64 eU, .int .u64 eY, .int .u64 eF, .bool fG]] rfl (by (try simp only [List.map_toArray, List.map_cons, List.map_nil]); first | done | rfl | (simp only [List.length_drop, List.length_take]; rfl)) ?_; (with_reducible refine (fK.calls _ _ aZ bW bY bZ eU eY eF fG t196 _ ?qW ?qX A4.out).mono ?_); (case qW => repeat (first | exact (Kd.fC AB.out HB.out) | (with_reducible refine Kd.rP ?_ _) | (with_reducible refine Kd.rQ ?_ _) | (with_reducible refine Kd.vM ?_))); (case qX => exact AL.out); rintro e w12 ⟨rfl, hb⟩; refine ⟨_, rfl, ?_⟩; have n0_ := aA.mk (bG (g := dA) (o := .cells #[.slice dR aZ.length dS, .bool bW, .int .i64 bY, .int .i64 bZ, .int .i64 eU, .int .u64 eY, .int .u64 eF, .bool fG, .slice GY eH.length qG, .int .i64 iM] 33 (0, 0)) (by (with_reducible repeat (first | refine bU ?_ _ | refine bJ ?_ | refine bD ?_ _)); exact bF.out) hb); have n1_ := aA.mk (bC (by repeat (first | (with_reducible first | exact HB.out | apply aT | apply aU | apply aY | refine bH ?_ lK.out) | exact HB.out)) hb); clear bF; clear HB; have bF := n0_; have HB := n1_; clear n0_ n1_; (try clear hb); (try clear hb2); (try clear hk); (try clear hi); have UO : w12.cell? ⟨dA, 0, none⟩ = some (.slice dR aZ.length dS) := (aG bF.out 0).trans rfl; have UQ : w12.cell? ⟨dA, 1, none⟩ = some (.bool bW) := (aG bF.out 1).trans rfl; have UR : w12.cell? ⟨dA, 2, none⟩ = some (.int .i64 bY) := (aG bF.out 2).trans rfl; have UU : w12.cell? ⟨dA, 3, none⟩ = some (.int .i64 bZ) := (aG bF.out 3).trans rfl; have UW : w12.cell? ⟨dA, 4, none⟩ = some (.int .i64 eU) := (aG bF.out 4).trans rfl; have UY : w12.cell? ⟨dA, 5, none⟩ = some (.int .u64 eY) := (aG bF.out 5).trans rfl; have UZ : w12.cell? ⟨dA, 6, none⟩ = some (.int .u64 eF) := (aG bF.out 6).trans rfl; have U0 : w12.cell? ⟨dA, 7, none⟩ = some (.bool fG) := (aG bF.out 7).trans rfl; have qbc : w12.cell? ⟨dA, 8, none⟩ = some (.slice GY eH.length qG) := (aG bF.out 8).trans rfl; have qbe : w12.cell? ⟨dA, 9, none⟩ = some (.int .i64 iM) := (aG bF.out 9).trans rfl; have U1 := aC bF.out 0; have U2 := aC bF.out 1; have U3 := aC bF.out 2; have U4 := aC bF.out 3; have U5 := aC bF.out 4; have U6 := aC bF.out 5; have U7 := aC bF.out 6; have U8 := aC bF.out 7; have qbf := aC bF.out 8; have qbg := aC bF.out 9))
        go_meet
        case rel => exact ⟨_, (false), (by first | rfl | (simp; done) | (simp [*]; done)), H', ⟨by first | omega | exact Nat.le_refl _⟩, ⟨by (with_reducible repeat (first | refine bU ?_ _ | refine bJ ?_ | refine bD ?_ _)); exact bF.out⟩, ⟨by repeat (first | (with_reducible first | exact HB.out | apply aT | apply aU | apply aY | refine bH ?_ lK.out) | exact HB.out)⟩⟩
    · rw [if_neg c5] at H
      have XK : (t196 == 0) = false := beq_eq_false_iff_ne.mpr c5
      have qgg : (t196 != 0) = true := bne_iff_ne.mpr c5
      (first | rw [XK] | (simp only [aI, aJ]; rw [XK]) | skip)
      have H' := aA.mk H
      clear H
      have qbh : w3.cell? ⟨dA, 0, none⟩ = some (.slice dR aZ.length dS) := (aG bF.out 0).trans rfl
      have qbi : w3.cell? ⟨dA, 1, none⟩ = some (.bool bW) := (aG bF.out 1).trans rfl
      have qbj : w3.cell? ⟨dA, 2, none⟩ = some (.int .i64 bY) := (aG bF.out 2).trans rfl
      have qbk : w3.cell? ⟨dA, 3, none⟩ = some (.int .i64 bZ) := (aG bF.out 3).trans rfl
      have qbl : w3.cell? ⟨dA, 4, none⟩ = some (.int .i64 eU) := (aG bF.out 4).trans rfl
      have qbm : w3.cell? ⟨dA, 5, none⟩ = some (.int .u64 eY) := (aG bF.out 5).trans rfl
      have qbn : w3.cell? ⟨dA, 6, none⟩ = some (.int .u64 eF) := (aG bF.out 6).trans rfl
      have qbo : w3.cell? ⟨dA, 7, none⟩ = some (.bool fG) := (aG bF.out 7).trans rfl
      have qbp : w3.cell? ⟨dA, 8, none⟩ = some (.slice GY eH.length qG) := (aG bF.out 8).trans rfl
      have qbq : w3.cell? ⟨dA, 9, none⟩ = some (.int .i64 iM) := (aG bF.out 9).trans rfl
      have qbr := aC bF.out 0
      have qbs := aC bF.out 1
      have qbt := aC bF.out 2
      have qbu := aC bF.out 3
      have qbw := aC bF.out 4
      have qbx := aC bF.out 5
      have qby := aC bF.out 6
      have qbz := aC bF.out 7
      have qbA := aC bF.out 8
      have qbB := aC bF.out 9
      go_wp2_with (first | ((with_reducible refine jX (f := 33) rfl ?_); refine vN (some 9) rfl rfl Tryz.func33 (by kernel_rfl) rfl #[.agg #[.slice dR aZ.length dS, .bool bW, .int .i64 bY, .int .i64 bZ, .int .i64 eU, .int .u64 eY, .int .u64 eF, .bool fG]] rfl (by (try simp only [List.map_toArray, List.map_cons, List.map_nil]); first | done | rfl | (simp only [List.length_drop, List.length_take]; rfl)) ?_; (with_reducible refine (fK.calls _ _ aZ bW bY bZ eU eY eF fG t196 _ ?qW ?qX A4.out).mono ?_); (case qW => repeat (first | exact (Kd.fC AB.out HB.out) | (with_reducible refine Kd.rP ?_ _) | (with_reducible refine Kd.rQ ?_ _) | (with_reducible refine Kd.vM ?_))); (case qX => exact AL.out); rintro e w15 ⟨rfl, hb⟩; refine ⟨_, rfl, ?_⟩; have n0_ := aA.mk (bG (g := dA) (o := .cells #[.slice dR aZ.length dS, .bool bW, .int .i64 bY, .int .i64 bZ, .int .i64 eU, .int .u64 eY, .int .u64 eF, .bool fG, .slice GY eH.length qG, .int .i64 iM] 33 (0, 0)) (by (with_reducible repeat (first | refine bU ?_ _ | refine bJ ?_ | refine bD ?_ _)); exact bF.out) hb); have n1_ := aA.mk (bC (by repeat (first | (with_reducible first | exact HB.out | apply aT | apply aU | apply aY | refine bH ?_ lK.out) | exact HB.out)) hb); clear bF; clear HB; have bF := n0_; have HB := n1_; clear n0_ n1_; (try clear hb); (try clear hb2); (try clear hk); (try clear hi)))
      go_meet
      case rel => exact ⟨_, (false), (by first | rfl | (simp; done) | (simp [*]; done)), H', ⟨by first | omega | exact Nat.le_refl _⟩, ⟨by (with_reducible repeat (first | refine bU ?_ _ | refine bJ ?_ | refine bD ?_ _)); exact bF.out⟩, ⟨by repeat (first | (with_reducible first | exact HB.out | apply aT | apply aU | apply aY | refine bH ?_ lK.out) | exact HB.out)⟩⟩
  case rest =>
    clear HC2
    try clear p2
    try clear c3
    try clear c5
    try clear XK
    try clear qgg
    try clear c6
    try clear qe7
    try clear qaM
    try clear qaN
    try clear qaO
    try clear qaP
    try clear qaQ
    try clear qaR
    try clear qaS
    try clear qaT
    try clear qaU
    try clear qaV
    try clear TT
    try clear TU
    try clear TV
    try clear TW
    try clear TY
    try clear UA
    try clear UC
    try clear UD
    try clear qa8
    try clear qa9
    try clear UO
    try clear UQ
    try clear UR
    try clear UU
    try clear UW
    try clear UY
    try clear UZ
    try clear U0
    try clear qbc
    try clear qbe
    try clear qbh
    try clear qbi
    try clear qbj
    try clear qbk
    try clear qbl
    try clear qbm
    try clear qbn
    try clear qbo
    try clear qbp
    try clear qbq
    try clear Y5
    try clear Y6
    try clear Y7
    try clear Y8
    try clear Y9
    try clear ZA
    try clear ZB
    try clear ZC
    try clear qdO
    try clear qdP
    try clear qaW
    try clear qaX
    try clear qaY
    try clear qaZ
    try clear qa1
    try clear qa3
    try clear qa4
    try clear qa5
    try clear qa6
    try clear qa7
    try clear UF
    try clear UG
    try clear UH
    try clear UJ
    try clear UK
    try clear UL
    try clear UM
    try clear UN
    try clear qba
    try clear qbb
    try clear U1
    try clear U2
    try clear U3
    try clear U4
    try clear U5
    try clear U6
    try clear U7
    try clear U8
    try clear qbf
    try clear qbg
    try clear qbr
    try clear qbs
    try clear qbt
    try clear qbu
    try clear qbw
    try clear qbx
    try clear qby
    try clear qbz
    try clear qbA
    try clear qbB
    try clear ZE
    try clear ZF
    try clear ZG
    try clear ZH
    try clear ZI
    try clear ZJ
    try clear ZK
    try clear ZL
    try clear qdQ
    try clear qdR
    obtain ⟨kq, qe6, rfl, HA, HJ1, bF, HB⟩ := hcut
    cases kq with
    | zero => exact absurd HA.out (by simp [bK.j0])
    | succ kj1 =>
      have H := HA.out
      clear HA
      simp only [bK.j0] at H
      have H' := aA.mk H
      clear H
      have qav : wc.cell? ⟨dA, 0, none⟩ = some (.slice dR aZ.length dS) := (aG bF.out 0).trans rfl
      have qaw : wc.cell? ⟨dA, 1, none⟩ = some (.bool bW) := (aG bF.out 1).trans rfl
      have qax : wc.cell? ⟨dA, 2, none⟩ = some (.int .i64 bY) := (aG bF.out 2).trans rfl
      have qay : wc.cell? ⟨dA, 3, none⟩ = some (.int .i64 bZ) := (aG bF.out 3).trans rfl
      have qaz : wc.cell? ⟨dA, 4, none⟩ = some (.int .i64 eU) := (aG bF.out 4).trans rfl
      have qaA : wc.cell? ⟨dA, 5, none⟩ = some (.int .u64 eY) := (aG bF.out 5).trans rfl
      have qaB : wc.cell? ⟨dA, 6, none⟩ = some (.int .u64 eF) := (aG bF.out 6).trans rfl
      have qaC : wc.cell? ⟨dA, 7, none⟩ = some (.bool fG) := (aG bF.out 7).trans rfl
      have qe8 : wc.cell? ⟨dA, 8, none⟩ = some (.slice GY eH.length qG) := (aG bF.out 8).trans rfl
      have qe9 : wc.cell? ⟨dA, 9, none⟩ = some (.int .i64 iM) := (aG bF.out 9).trans rfl
      have qaD := aC bF.out 0
      have qaE := aC bF.out 1
      have qaF := aC bF.out 2
      have qaG := aC bF.out 3
      have qaH := aC bF.out 4
      have qaI := aC bF.out 5
      have qaJ := aC bF.out 6
      have qaK := aC bF.out 7
      have qfa := aC bF.out 8
      have qfb := aC bF.out 9
      go_wp2
      go_loopg [3, 4, 31] kj1 (fun kq v3 v4 v31 w' => ∃ (qdS : Bool) (MQ : Int) (fM : Int), v3 = .bool qdS ∧ v4 = .int .u64 MQ ∧ v31 = .int .i64 fM ∧ aA (bK.l0 kq qdS MQ eH (eH.length : Int) fM aZ bW bY bZ eU eY eF fG eH iM = some r) ∧ aA (kq ≤ kj1) ∧ aA (w'.heap[dA]? = some (.cells #[(.slice dR aZ.length dS), .bool bW, .int .i64 bY, .int .i64 bZ, .int .i64 eU, .int .u64 eY, .int .u64 eF, .bool fG, (.slice GY eH.length qG), .int .i64 iM] 33 (0, 0))) ∧ aA (Below w.heap.size w w'))
      case atStart => exact ⟨(qe6), (eY), (0), (by first | rfl | (simp; done) | (simp [*]; done)), (by first | rfl | (simp; done) | (simp [*]; done)), (by first | rfl | (simp; done) | (simp [*]; done)), H', ⟨Nat.le_refl _⟩, ⟨by (with_reducible repeat (first | refine bU ?_ _ | refine bJ ?_ | refine bD ?_ _)); exact bF.out⟩, ⟨by repeat (first | (with_reducible first | exact HB.out | apply aT | apply aU | apply aY | refine bH ?_ lK.out) | exact HB.out)⟩⟩
      case round =>
        clear H'
        try clear p2
        try clear c3
        try clear c5
        try clear XK
        try clear qgg
        try clear c6
        try clear qe7
        try clear qaM
        try clear qaN
        try clear qaO
        try clear qaP
        try clear qaQ
        try clear qaR
        try clear qaS
        try clear qaT
        try clear qaU
        try clear qaV
        try clear TT
        try clear TU
        try clear TV
        try clear TW
        try clear TY
        try clear UA
        try clear UC
        try clear UD
        try clear qa8
        try clear qa9
        try clear UO
        try clear UQ
        try clear UR
        try clear UU
        try clear UW
        try clear UY
        try clear UZ
        try clear U0
        try clear qbc
        try clear qbe
        try clear qbh
        try clear qbi
        try clear qbj
        try clear qbk
        try clear qbl
        try clear qbm
        try clear qbn
        try clear qbo
        try clear qbp
        try clear qbq
        try clear qav
        try clear qaw
        try clear qax
        try clear qay
        try clear qaz
        try clear qaA
        try clear qaB
        try clear qaC
        try clear qe8
        try clear qe9
        try clear Y5
        try clear Y6
        try clear Y7
        try clear Y8
        try clear Y9
        try clear ZA
        try clear ZB
        try clear ZC
        try clear qdO
        try clear qdP
        try clear qaW
        try clear qaX
        try clear qaY
        try clear qaZ
        try clear qa1
        try clear qa3
        try clear qa4
        try clear qa5
        try clear qa6
        try clear qa7
        try clear UF
        try clear UG
        try clear UH
        try clear UJ
        try clear UK
        try clear UL
        try clear UM
        try clear UN
        try clear qba
        try clear qbb
        try clear U1
        try clear U2
        try clear U3
        try clear U4
        try clear U5
        try clear U6
        try clear U7
        try clear U8
        try clear qbf
        try clear qbg
        try clear qbr
        try clear qbs
        try clear qbt
        try clear qbu
        try clear qbw
        try clear qbx
        try clear qby
        try clear qbz
        try clear qbA
        try clear qbB
        try clear qaD
        try clear qaE
        try clear qaF
        try clear qaG
        try clear qaH
        try clear qaI
        try clear qaJ
        try clear qaK
        try clear qfa
        try clear qfb
        try clear ZE
        try clear ZF
        try clear ZG
        try clear ZH
        try clear ZI
        try clear ZJ
        try clear ZK
        try clear ZL
        try clear qdQ
        try clear qdR
        try clear p2
        obtain ⟨qdS, MQ, fM, rfl, rfl, rfl, HA, HK2, bF, HB⟩ := hrel
        cases gk with
        | zero => exact absurd HA.out (by simp [bK.l0])
        | succ k2 =>
          have H := HA.out
          clear HA
          simp only [bK.l0] at H
          by_cases c17 : fM < (eH.length : Int)
          · rw [if_pos c17] at H
            have qgV : decide (fM < (eH.length : Int)) = true := decide_eq_true c17
            clear c17
            by_cases c18 : 0 ≤ fM
            · rw [if_pos c18] at H
              have qkb : decide (0 ≤ fM) = true := decide_eq_true c18
              clear c18
              by_cases c19 : fM < (eH.length : Int)
              · rw [if_pos c19] at H
                have qfw : decide (fM < (eH.length : Int)) = true := decide_eq_true c19
                clear c19
                by_cases c20 : qdS = true
                · subst c20
                  have H1 : (if (((dP eH fM).f1).size : Int) < 65536 then (if ((dP eH fM).f0) ≥ MQ then (bK.l0 k2 (decide (((dP eH fM).f0) < eF)) (IntKind.u64.wrap (((dP eH fM).f0) + 1)) eH (eH.length : Int) (wrap64 (fM + 1)) aZ bW bY bZ eU eY eF fG eH iM) else (bK.l0 k2 false (IntKind.u64.wrap (((dP eH fM).f0) + 1)) eH (eH.length : Int) (wrap64 (fM + 1)) aZ bW bY bZ eU eY eF fG eH iM)) else (bK.l0 k2 false (IntKind.u64.wrap (((dP eH fM).f0) + 1)) eH (eH.length : Int) (wrap64 (fM + 1)) aZ bW bY bZ eU eY eF fG eH iM)) = some r := by rw [if_pos rfl] at H; exact H
                  clear H
                  have H := H1
                  clear H1
                  by_cases c21 : (((dP eH fM).f1).size : Int) < 65536
                  · rw [if_pos c21] at H
                    have qgW : decide ((((dP eH fM).f1).size : Int) < 65536) = true := decide_eq_true c21
                    have qgX : decide (((dP eH fM).f1).size < 65536) = true := decide_eq_true (by omega)
                    clear c21
                    by_cases c22 : ((dP eH fM).f0) ≥ MQ
                    · rw [if_pos c22] at H
                      have qgY : decide (MQ ≤ ((dP eH fM).f0)) = true := decide_eq_true c22
                      clear c22
                      have H' := aA.mk H
                      clear H
                      have DK : 0 ≤ (fM : Int) := of_decide_eq_true (by first | (with_reducible assumption) | assumption)
                      have DL : fM < (eH.length : Int) := of_decide_eq_true (by first | (with_reducible assumption) | assumption)
                      obtain ⟨rJ, e197, kZ, lC, lD⟩ := wW qaL.out fM DK DL
                      cases e197
                      replace kZ := (HB.out.cell (World.block_lt_of_cell? w _ kZ)).trans kZ
                      replace lC := (HB.out.cell (World.block_lt_of_cell? w _ lC)).trans lC
                      replace lD := (HB.out.cell (World.block_lt_of_cell? w _ lD)).trans lD
                      replace DK := eq_true DK
                      replace DL := eq_true DL
                      go_wp2_with (first | ((with_reducible refine aN (N := 6) rfl ?_); (try (refine sK (by rfl) ?_; dsimp only)); refine dH ?hg (N := 6) ?hd (cs := #[.int .u64 0, .string (⟨#[]⟩ : ByteArray), .bool false]) (t := 41) ?hr ?_; (case hd => rfl); (case hg => rfl); (case hr => first | (go_simp; done) | (go_simp; rfl)); intro jO hg w23 hbox hb; have n0_ := aA.mk (bG (g := dA) (o := .cells #[.slice dR aZ.length dS, .bool bW, .int .i64 bY, .int .i64 bZ, .int .i64 eU, .int .u64 eY, .int .u64 eF, .bool fG, .slice (some rJ) eH.length qG, .int .i64 iM] 33 (0, 0)) (by (with_reducible repeat (first | refine bU ?_ _ | refine bJ ?_ | refine bD ?_ _)); exact bF.out) hb); have n1_ := aA.mk (bC (by repeat (first | (with_reducible first | exact HB.out | apply aT | apply aU | apply aY | refine bH ?_ lK.out) | exact HB.out)) hb); have n2_ := aA.mk (hbox); have n3_ := aA.mk ((by rw [hg]; exact (dX (by repeat (first | (with_reducible first | exact HB.out | apply aT | apply aU | apply aY | refine bH ?_ lK.out) | exact HB.out))) : w.heap.size ≤ jO)); have n4_ := aA.mk ((by rw [hg]; exact (dX (by repeat (first | (with_reducible first | exact HB.out | apply aT | apply aU | apply aY | refine bH ?_ lK.out) | exact HB.out))) : w.heap.size ≤ jO)); have n5_ := aA.mk ((by rw [hg]; exact Nat.ne_of_lt (fZ (g := dA) (o := .cells #[.slice dR aZ.length dS, .bool bW, .int .i64 bY, .int .i64 bZ, .int .i64 eU, .int .u64 eY, .int .u64 eF, .bool fG, .slice (some rJ) eH.length qG, .int .i64 iM] 33 (0, 0)) (by (with_reducible repeat (first | refine bU ?_ _ | refine bJ ?_ | refine bD ?_ _)); exact bF.out)) : dA ≠ jO)); have n6_ := aA.mk ((by rw [hg]; exact Nat.ne_of_gt (fZ (g := dA) (o := .cells #[.slice dR aZ.length dS, .bool bW, .int .i64 bY, .int .i64 bZ, .int .i64 eU, .int .u64 eY, .int .u64 eF, .bool fG, .slice (some rJ) eH.length qG, .int .i64 iM] 33 (0, 0)) (by (with_reducible repeat (first | refine bU ?_ _ | refine bJ ?_ | refine bD ?_ _)); exact bF.out)) : jO ≠ dA)); clear bF; clear HB; have bF := n0_; have HB := n1_; have kQ := n2_; have qdT := n3_; have PK := n4_; have gB := n5_; have qH := n6_; clear n0_ n1_ n2_ n3_ n4_ n5_ n6_; clear hb hbox hg; have qkc := qH.out; have qkd := gB.out; have qeO : w23.cell? ⟨jO, 0, none⟩ = some (.int .u64 0) := (aG kQ.out 0).trans rfl; have qeP : w23.cell? ⟨jO, 1, none⟩ = some (.string (⟨#[]⟩ : ByteArray)) := (aG kQ.out 1).trans rfl; have qeQ : w23.cell? ⟨jO, 2, none⟩ = some (.bool false) := (aG kQ.out 2).trans rfl; have qeR := aC kQ.out 0; have qeS := aC kQ.out 1; have qeT := aC kQ.out 2; have qiI : w23.cell? ⟨dA, 0, none⟩ = some (.slice dR aZ.length dS) := (aG bF.out 0).trans rfl; have qiJ : w23.cell? ⟨dA, 1, none⟩ = some (.bool bW) := (aG bF.out 1).trans rfl; have qiK : w23.cell? ⟨dA, 2, none⟩ = some (.int .i64 bY) := (aG bF.out 2).trans rfl; have qiL : w23.cell? ⟨dA, 3, none⟩ = some (.int .i64 bZ) := (aG bF.out 3).trans rfl; have qiM : w23.cell? ⟨dA, 4, none⟩ = some (.int .i64 eU) := (aG bF.out 4).trans rfl; have qiN : w23.cell? ⟨dA, 5, none⟩ = some (.int .u64 eY) := (aG bF.out 5).trans rfl; have qiO : w23.cell? ⟨dA, 6, none⟩ = some (.int .u64 eF) := (aG bF.out 6).trans rfl; have qiP : w23.cell? ⟨dA, 7, none⟩ = some (.bool fG) := (aG bF.out 7).trans rfl; have qiQ : w23.cell? ⟨dA, 8, none⟩ = some (.slice (some rJ) eH.length qG) := (aG bF.out 8).trans rfl; have qiR : w23.cell? ⟨dA, 9, none⟩ = some (.int .i64 iM) := (aG bF.out 9).trans rfl; have qiS := aC bF.out 0; have qiT := aC bF.out 1; have qiU := aC bF.out 2; have qiV := aC bF.out 3; have qiW := aC bF.out 4; have qiX := aC bF.out 5; have qiY := aC bF.out 6; have qiZ := aC bF.out 7; have qi0 := aC bF.out 8; have qi1 := aC bF.out 9))
                      go_roundg k2
                      case measure => have := HJ1.out; have := HK2.out; omega
                      case rel => exact ⟨(decide (((dP eH fM).f0) < eF)), (IntKind.u64.wrap (((dP eH fM).f0) + 1)), (wrap64 (fM + 1)), (by first | rfl | (simp; done) | (simp [*]; done)), (by first | rfl | (simp; done) | (simp [*]; done)), (by first | rfl | (simp; done) | (simp [*]; done)), H', ⟨by have := HJ1.out; have := HK2.out; omega⟩, ⟨by (with_reducible repeat (first | refine bU ?_ _ | refine bJ ?_ | refine bD ?_ _)); refine dB ?_ gB.out _; (with_reducible repeat (first | refine bU ?_ _ | refine bJ ?_ | refine bD ?_ _)); refine dB ?_ gB.out _; (with_reducible repeat (first | refine bU ?_ _ | refine bJ ?_ | refine bD ?_ _)); refine dB ?_ gB.out _; (with_reducible repeat (first | refine bU ?_ _ | refine bJ ?_ | refine bD ?_ _)); exact bF.out⟩, ⟨by repeat (first | (with_reducible first | exact HB.out | apply aT | apply aU | apply aY | refine bH ?_ lK.out | refine bH ?_ PK.out) | exact HB.out)⟩⟩
                    · rw [if_neg c22] at H
                      have qgY : decide (MQ ≤ ((dP eH fM).f0)) = false := decide_eq_false c22
                      clear c22
                      have H' := aA.mk H
                      clear H
                      have DK : 0 ≤ (fM : Int) := of_decide_eq_true (by first | (with_reducible assumption) | assumption)
                      have DL : fM < (eH.length : Int) := of_decide_eq_true (by first | (with_reducible assumption) | assumption)
                      obtain ⟨rJ, e197, kZ, lC, lD⟩ := wW qaL.out fM DK DL
                      cases e197
                      replace kZ := (HB.out.cell (World.block_lt_of_cell? w _ kZ)).trans kZ
                      replace lC := (HB.out.cell (World.block_lt_of_cell? w _ lC)).trans lC
                      replace lD := (HB.out.cell (World.block_lt_of_cell? w _ lD)).trans lD
                      replace DK := eq_true DK
                      replace DL := eq_true DL
                      go_wp2_with (first | ((with_reducible refine aN (N := 6) rfl ?_); (try (refine sK (by rfl) ?_; dsimp only)); refine dH ?hg (N := 6) ?hd (cs := #[.int .u64 0, .string (⟨#[]⟩ : ByteArray), .bool false]) (t := 41) ?hr ?_; (case hd => rfl); (case hg => rfl); (case hr => first | (go_simp; done) | (go_simp; rfl)); intro jO hg w27 hbox hb; have n0_ := aA.mk (bG (g := dA) (o := .cells #[.slice dR aZ.length dS, .bool bW, .int .i64 bY, .int .i64 bZ, .int .i64 eU, .int .u64 eY, .int .u64 eF, .bool fG, .slice (some rJ) eH.length qG, .int .i64 iM] 33 (0, 0)) (by (with_reducible repeat (first | refine bU ?_ _ | refine bJ ?_ | refine bD ?_ _)); exact bF.out) hb); have n1_ := aA.mk (bC (by repeat (first | (with_reducible first | exact HB.out | apply aT | apply aU | apply aY | refine bH ?_ lK.out) | exact HB.out)) hb); have n2_ := aA.mk (hbox); have n3_ := aA.mk ((by rw [hg]; exact (dX (by repeat (first | (with_reducible first | exact HB.out | apply aT | apply aU | apply aY | refine bH ?_ lK.out) | exact HB.out))) : w.heap.size ≤ jO)); have n4_ := aA.mk ((by rw [hg]; exact (dX (by repeat (first | (with_reducible first | exact HB.out | apply aT | apply aU | apply aY | refine bH ?_ lK.out) | exact HB.out))) : w.heap.size ≤ jO)); have n5_ := aA.mk ((by rw [hg]; exact Nat.ne_of_lt (fZ (g := dA) (o := .cells #[.slice dR aZ.length dS, .bool bW, .int .i64 bY, .int .i64 bZ, .int .i64 eU, .int .u64 eY, .int .u64 eF, .bool fG, .slice (some rJ) eH.length qG, .int .i64 iM] 33 (0, 0)) (by (with_reducible repeat (first | refine bU ?_ _ | refine bJ ?_ | refine bD ?_ _)); exact bF.out)) : dA ≠ jO)); have n6_ := aA.mk ((by rw [hg]; exact Nat.ne_of_gt (fZ (g := dA) (o := .cells #[.slice dR aZ.length dS, .bool bW, .int .i64 bY, .int .i64 bZ, .int .i64 eU, .int .u64 eY, .int .u64 eF, .bool fG, .slice (some rJ) eH.length qG, .int .i64 iM] 33 (0, 0)) (by (with_reducible repeat (first | refine bU ?_ _ | refine bJ ?_ | refine bD ?_ _)); exact bF.out)) : jO ≠ dA)); clear bF; clear HB; have bF := n0_; have HB := n1_; have kQ := n2_; have qdT := n3_; have PK := n4_; have gB := n5_; have qH := n6_; clear n0_ n1_ n2_ n3_ n4_ n5_ n6_; clear hb hbox hg; have qke := qH.out; have qkf := gB.out; have qeU : w27.cell? ⟨jO, 0, none⟩ = some (.int .u64 0) := (aG kQ.out 0).trans rfl; have qeV : w27.cell? ⟨jO, 1, none⟩ = some (.string (⟨#[]⟩ : ByteArray)) := (aG kQ.out 1).trans rfl; have qeW : w27.cell? ⟨jO, 2, none⟩ = some (.bool false) := (aG kQ.out 2).trans rfl; have qeX := aC kQ.out 0; have qeY := aC kQ.out 1; have qeZ := aC kQ.out 2))
                      go_roundg k2
                      case measure => have := HJ1.out; have := HK2.out; omega
                      case rel => exact ⟨(false), (IntKind.u64.wrap (((dP eH fM).f0) + 1)), (wrap64 (fM + 1)), (by first | rfl | (simp; done) | (simp [*]; done)), (by first | rfl | (simp; done) | (simp [*]; done)), (by first | rfl | (simp; done) | (simp [*]; done)), H', ⟨by have := HJ1.out; have := HK2.out; omega⟩, ⟨by (with_reducible repeat (first | refine bU ?_ _ | refine bJ ?_ | refine bD ?_ _)); refine dB ?_ gB.out _; (with_reducible repeat (first | refine bU ?_ _ | refine bJ ?_ | refine bD ?_ _)); refine dB ?_ gB.out _; (with_reducible repeat (first | refine bU ?_ _ | refine bJ ?_ | refine bD ?_ _)); refine dB ?_ gB.out _; (with_reducible repeat (first | refine bU ?_ _ | refine bJ ?_ | refine bD ?_ _)); exact bF.out⟩, ⟨by repeat (first | (with_reducible first | exact HB.out | apply aT | apply aU | apply aY | refine bH ?_ lK.out | refine bH ?_ PK.out) | exact HB.out)⟩⟩
                  · rw [if_neg c21] at H
                    have qgW : decide ((((dP eH fM).f1).size : Int) < 65536) = false := decide_eq_false c21
                    have qgX : decide (((dP eH fM).f1).size < 65536) = false := decide_eq_false (by omega)
                    clear c21
                    have H' := aA.mk H
                    clear H
                    have DK : 0 ≤ (fM : Int) := of_decide_eq_true (by first | (with_reducible assumption) | assumption)
                    have DL : fM < (eH.length : Int) := of_decide_eq_true (by first | (with_reducible assumption) | assumption)
                    obtain ⟨rJ, e197, kZ, lC, lD⟩ := wW qaL.out fM DK DL
                    cases e197
                    replace kZ := (HB.out.cell (World.block_lt_of_cell? w _ kZ)).trans kZ
                    replace lC := (HB.out.cell (World.block_lt_of_cell? w _ lC)).trans lC
                    replace lD := (HB.out.cell (World.block_lt_of_cell? w _ lD)).trans lD
                    replace DK := eq_true DK
                    replace DL := eq_true DL
                    go_wp2_with (first | ((with_reducible refine aN (N := 6) rfl ?_); (try (refine sK (by rfl) ?_; dsimp only)); refine dH ?hg (N := 6) ?hd (cs := #[.int .u64 0, .string (⟨#[]⟩ : ByteArray), .bool false]) (t := 41) ?hr ?_; (case hd => rfl); (case hg => rfl); (case hr => first | (go_simp; done) | (go_simp; rfl)); intro jO hg w30 hbox hb; have n0_ := aA.mk (bG (g := dA) (o := .cells #[.slice dR aZ.length dS, .bool bW, .int .i64 bY, .int .i64 bZ, .int .i64 eU, .int .u64 eY, .int .u64 eF, .bool fG, .slice (some rJ) eH.length qG, .int .i64 iM] 33 (0, 0)) (by (with_reducible repeat (first | refine bU ?_ _ | refine bJ ?_ | refine bD ?_ _)); exact bF.out) hb); have n1_ := aA.mk (bC (by repeat (first | (with_reducible first | exact HB.out | apply aT | apply aU | apply aY | refine bH ?_ lK.out) | exact HB.out)) hb); have n2_ := aA.mk (hbox); have n3_ := aA.mk ((by rw [hg]; exact (dX (by repeat (first | (with_reducible first | exact HB.out | apply aT | apply aU | apply aY | refine bH ?_ lK.out) | exact HB.out))) : w.heap.size ≤ jO)); have n4_ := aA.mk ((by rw [hg]; exact (dX (by repeat (first | (with_reducible first | exact HB.out | apply aT | apply aU | apply aY | refine bH ?_ lK.out) | exact HB.out))) : w.heap.size ≤ jO)); have n5_ := aA.mk ((by rw [hg]; exact Nat.ne_of_lt (fZ (g := dA) (o := .cells #[.slice dR aZ.length dS, .bool bW, .int .i64 bY, .int .i64 bZ, .int .i64 eU, .int .u64 eY, .int .u64 eF, .bool fG, .slice (some rJ) eH.length qG, .int .i64 iM] 33 (0, 0)) (by (with_reducible repeat (first | refine bU ?_ _ | refine bJ ?_ | refine bD ?_ _)); exact bF.out)) : dA ≠ jO)); have n6_ := aA.mk ((by rw [hg]; exact Nat.ne_of_gt (fZ (g := dA) (o := .cells #[.slice dR aZ.length dS, .bool bW, .int .i64 bY, .int .i64 bZ, .int .i64 eU, .int .u64 eY, .int .u64 eF, .bool fG, .slice (some rJ) eH.length qG, .int .i64 iM] 33 (0, 0)) (by (with_reducible repeat (first | refine bU ?_ _ | refine bJ ?_ | refine bD ?_ _)); exact bF.out)) : jO ≠ dA)); clear bF; clear HB; have bF := n0_; have HB := n1_; have kQ := n2_; have qdT := n3_; have PK := n4_; have gB := n5_; have qH := n6_; clear n0_ n1_ n2_ n3_ n4_ n5_ n6_; clear hb hbox hg; have qkg := qH.out; have qkh := gB.out; have qi2 : w30.cell? ⟨jO, 0, none⟩ = some (.int .u64 0) := (aG kQ.out 0).trans rfl; have qi3 : w30.cell? ⟨jO, 1, none⟩ = some (.string (⟨#[]⟩ : ByteArray)) := (aG kQ.out 1).trans rfl; have qi4 : w30.cell? ⟨jO, 2, none⟩ = some (.bool false) := (aG kQ.out 2).trans rfl; have qi6 := aC kQ.out 0; have qi7 := aC kQ.out 1; have qi8 := aC kQ.out 2))
                    go_roundg k2
                    case measure => have := HJ1.out; have := HK2.out; omega
                    case rel => exact ⟨(false), (IntKind.u64.wrap (((dP eH fM).f0) + 1)), (wrap64 (fM + 1)), (by first | rfl | (simp; done) | (simp [*]; done)), (by first | rfl | (simp; done) | (simp [*]; done)), (by first | rfl | (simp; done) | (simp [*]; done)), H', ⟨by have := HJ1.out; have := HK2.out; omega⟩, ⟨by (with_reducible repeat (first | refine bU ?_ _ | refine bJ ?_ | refine bD ?_ _)); refine dB ?_ gB.out _; (with_reducible repeat (first | refine bU ?_ _ | refine bJ ?_ | refine bD ?_ _)); refine dB ?_ gB.out _; (with_reducible repeat (first | refine bU ?_ _ | refine bJ ?_ | refine bD ?_ _)); refine dB ?_ gB.out _; (with_reducible repeat (first | refine bU ?_ _ | refine bJ ?_ | refine bD ?_ _)); exact bF.out⟩, ⟨by repeat (first | (with_reducible first | exact HB.out | apply aT | apply aU | apply aY | refine bH ?_ lK.out | refine bH ?_ PK.out) | exact HB.out)⟩⟩
                · replace c20 := Bool.eq_false_iff.mpr c20
                  subst c20
                  have H1 : (bK.l0 k2 false (IntKind.u64.wrap (((dP eH fM).f0) + 1)) eH (eH.length : Int) (wrap64 (fM + 1)) aZ bW bY bZ eU eY eF fG eH iM) = some r := by rw [if_neg (show ¬ (false = true) by decide)] at H; exact H
                  clear H
                  have H := H1
                  clear H1
                  have H' := aA.mk H
                  clear H
                  have DK : 0 ≤ (fM : Int) := of_decide_eq_true (by first | (with_reducible assumption) | assumption)
                  have DL : fM < (eH.length : Int) := of_decide_eq_true (by first | (with_reducible assumption) | assumption)
                  obtain ⟨rJ, e197, kZ, lC, lD⟩ := wW qaL.out fM DK DL
                  cases e197
                  replace kZ := (HB.out.cell (World.block_lt_of_cell? w _ kZ)).trans kZ
                  replace lC := (HB.out.cell (World.block_lt_of_cell? w _ lC)).trans lC
                  replace lD := (HB.out.cell (World.block_lt_of_cell? w _ lD)).trans lD
                  replace DK := eq_true DK
                  replace DL := eq_true DL
                  go_wp2_with (first | ((with_reducible refine aN (N := 6) rfl ?_); (try (refine sK (by rfl) ?_; dsimp only)); refine dH ?hg (N := 6) ?hd (cs := #[.int .u64 0, .string (⟨#[]⟩ : ByteArray), .bool false]) (t := 41) ?hr ?_; (case hd => rfl); (case hg => rfl); (case hr => first | (go_simp; done) | (go_simp; rfl)); intro jO hg w33 hbox hb; have n0_ := aA.mk (bG (g := dA) (o := .cells #[.slice dR aZ.length dS, .bool bW, .int .i64 bY, .int .i64 bZ, .int .i64 eU, .int .u64 eY, .int .u64 eF, .bool fG, .slice (some rJ) eH.length qG, .int .i64 iM] 33 (0, 0)) (by (with_reducible repeat (first | refine bU ?_ _ | refine bJ ?_ | refine bD ?_ _)); exact bF.out) hb); have n1_ := aA.mk (bC (by repeat (first | (with_reducible first | exact HB.out | apply aT | apply aU | apply aY | refine bH ?_ lK.out) | exact HB.out)) hb); have n2_ := aA.mk (hbox); have n3_ := aA.mk ((by rw [hg]; exact (dX (by repeat (first | (with_reducible first | exact HB.out | apply aT | apply aU | apply aY | refine bH ?_ lK.out) | exact HB.out))) : w.heap.size ≤ jO)); have n4_ := aA.mk ((by rw [hg]; exact (dX (by repeat (first | (with_reducible first | exact HB.out | apply aT | apply aU | apply aY | refine bH ?_ lK.out) | exact HB.out))) : w.heap.size ≤ jO)); have n5_ := aA.mk ((by rw [hg]; exact Nat.ne_of_lt (fZ (g := dA) (o := .cells #[.slice dR aZ.length dS, .bool bW, .int .i64 bY, .int .i64 bZ, .int .i64 eU, .int .u64 eY, .int .u64 eF, .bool fG, .slice (some rJ) eH.length qG, .int .i64 iM] 33 (0, 0)) (by (with_reducible repeat (first | refine bU ?_ _ | refine bJ ?_ | refine bD ?_ _)); exact bF.out)) : dA ≠ jO)); have n6_ := aA.mk ((by rw [hg]; exact Nat.ne_of_gt (fZ (g := dA) (o := .cells #[.slice dR aZ.length dS, .bool bW, .int .i64 bY, .int .i64 bZ, .int .i64 eU, .int .u64 eY, .int .u64 eF, .bool fG, .slice (some rJ) eH.length qG, .int .i64 iM] 33 (0, 0)) (by (with_reducible repeat (first | refine bU ?_ _ | refine bJ ?_ | refine bD ?_ _)); exact bF.out)) : jO ≠ dA)); clear bF; clear HB; have bF := n0_; have HB := n1_; have kQ := n2_; have qdT := n3_; have PK := n4_; have gB := n5_; have qH := n6_; clear n0_ n1_ n2_ n3_ n4_ n5_ n6_; clear hb hbox hg; have qki := qH.out; have qkj := gB.out; have qi9 : w33.cell? ⟨jO, 0, none⟩ = some (.int .u64 0) := (aG kQ.out 0).trans rfl; have qja : w33.cell? ⟨jO, 1, none⟩ = some (.string (⟨#[]⟩ : ByteArray)) := (aG kQ.out 1).trans rfl; have qjb : w33.cell? ⟨jO, 2, none⟩ = some (.bool false) := (aG kQ.out 2).trans rfl; have qjc := aC kQ.out 0; have qjd := aC kQ.out 1; have qje := aC kQ.out 2))
                  go_roundg k2
                  case measure => have := HJ1.out; have := HK2.out; omega
                  case rel => exact ⟨(false), (IntKind.u64.wrap (((dP eH fM).f0) + 1)), (wrap64 (fM + 1)), (by first | rfl | (simp; done) | (simp [*]; done)), (by first | rfl | (simp; done) | (simp [*]; done)), (by first | rfl | (simp; done) | (simp [*]; done)), H', ⟨by have := HJ1.out; have := HK2.out; omega⟩, ⟨by (with_reducible repeat (first | refine bU ?_ _ | refine bJ ?_ | refine bD ?_ _)); refine dB ?_ gB.out _; (with_reducible repeat (first | refine bU ?_ _ | refine bJ ?_ | refine bD ?_ _)); refine dB ?_ gB.out _; (with_reducible repeat (first | refine bU ?_ _ | refine bJ ?_ | refine bD ?_ _)); refine dB ?_ gB.out _; (with_reducible repeat (first | refine bU ?_ _ | refine bJ ?_ | refine bD ?_ _)); exact bF.out⟩, ⟨by repeat (first | (with_reducible first | exact HB.out | apply aT | apply aU | apply aY | refine bH ?_ lK.out | refine bH ?_ PK.out) | exact HB.out)⟩⟩
              · rw [if_neg c19] at H
                exact absurd H (by simp)
            · rw [if_neg c18] at H
              exact absurd H (by simp)
          · rw [if_neg c17] at H
            have qgV : decide (fM < (eH.length : Int)) = false := decide_eq_false c17
            clear c17
            by_cases c36 : qdS = true
            · subst c36
              have H1 : (some 0) = some r := by rw [if_pos rfl] at H; exact H
              clear H
              have H := H1
              clear H1
              obtain rfl := Option.some.inj H
              go_wp2
              go_ret
              exact ⟨by first | rfl | (simp [gI, gJ] <;> rfl) | (simp [*, gI, gJ] <;> rfl), by repeat (first | (with_reducible first | exact HB.out | apply aT | apply aU | apply aY | refine bH ?_ lK.out) | exact HB.out)⟩
            · replace c36 := Bool.eq_false_iff.mpr c36
              subst c36
              have H1 : (some 6) = some r := by rw [if_neg (show ¬ (false = true) by decide)] at H; exact H
              clear H
              have H := H1
              clear H1
              obtain rfl := Option.some.inj H
              go_wp2
              go_ret
              exact ⟨by first | rfl | (simp [gI, gJ] <;> rfl) | (simp [*, gI, gJ] <;> rfl), by repeat (first | (with_reducible first | exact HB.out | apply aT | apply aU | apply aY | refine bH ?_ lK.out) | exact HB.out)⟩
end Go.Proofs.YtanonhipicoigaaGreatDoor.U
