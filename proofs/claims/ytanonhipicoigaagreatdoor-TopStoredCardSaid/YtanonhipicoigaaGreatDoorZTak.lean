import Derived.Test.YtanonhipicoigaaGreatDoorZTaj
import Derived.RegionTactic
import Derived.BigRegion
import Derived.Deep.RegionLaw
import Derived.Lib.SliceRun
import Derived.Test.YtanonhipicoigaaGreatDoorZTag
set_option linter.unusedVariables false
set_option linter.unusedSimpArgs false
set_option maxRecDepth 100000
namespace Go.Proofs.U
open Go.RowKit Go.Proofs.aA.aK Go.Proofs.aA.aW Go.Proofs.aA.aZ
theorem qbx : ∀ (last : List UInt8) (l : List S67) (i : Nat) (x : S67), oC last l = true → l[i]? = some x → x.f0.size ≤ 4096 ∧ x.f1.size ≤ 262144 ∧ 0 ≤ x.f2 ∧ x.f2 ≤ (x.f1.size : Int)
 | _, [], i, x, _, h => by simp at h
 | last, y :: l, 0, x, hk, h => by
  obtain rfl : y = x := by simpa using h
  simp only [oC, AA, Bool.and_eq_true, decide_eq_true_eq] at hk
  exact ⟨hk.1.1.1.1.2, hk.1.1.1.2, hk.1.1.2, hk.1.2⟩
 | last, y :: l, i + 1, x, hk, h => by
  simp only [oC, Bool.and_eq_true] at hk
  exact qbx y.f0.toList l i x hk.2 (by simpa using h)
theorem pG {l : List S67} (h : bI l = true) {i : Nat} {x : S67} (hx : l[i]? = some x) : x.f0.size ≤ 4096 ∧ x.f1.size ≤ 262144 ∧ 0 ≤ x.f2 ∧ x.f2 ≤ (x.f1.size : Int) := by
 simp only [bI, Bool.and_eq_true] at h
 exact qbx [] l i x h.1 hx
theorem iM {l : List S67} {i : Nat} {x : S67} (hx : l[i]? = some x) : dX l (i : Int) = x := by
 simp [dX, List.getD, hx]
def rfW (data : ByteArray) (l : List S67) (i : Int) (b : Bool) : Int := if b = true then (if 262144 - ((dX l i).f1.size : Int) < (data.size : Int) then 8 else 0) else 7
theorem qby : Enters 175 := fun args w => jX Tryz.func175 (by kernel_rfl) (by kernel_rfl) args w
theorem qbz : Enters 176 := fun args w => jX Tryz.func176 (by kernel_rfl) (by kernel_rfl) args w
set_option maxHeartbeats 4000000 in
theorem OJ (w : World) (gp b1 b2 g : Nat) (cur : Array Value) (data : ByteArray) (l : List S67) (c : Nat) (i : Nat) (x : S67) (hx : l[i]? = some x) (hsz : x.f1.size ≤ 262144) (hn : l.length ≤ 64) (s3 : w.cell? ⟨b2, 0, none⟩ = some (.string data)) (s1 : w.cell? ⟨b1, 0, none⟩ = some (.pointer (some ⟨gp, 0, none⟩)))
  (s2 : w.cell? ⟨gp, 0, none⟩ = some (.slice (some ⟨g, 0, none⟩) l.length c)) (hh : w.heap[g]? = some (.cells cur 67 (0, 0))) (h6 : cur.toList.take (l.length * 3) = cellsOf l) :
  Calls Tryz.prog 175 #[.int .i64 (i : Int), .bool true, .pointer (some ⟨b2, 0, none⟩), .pointer (some ⟨b1, 0, none⟩)] w fun e w' => e = .returned (.int .i64 (rfW data l i true)) ∧ Below w.heap.size w w' := by
 have hlt : i < l.length := (List.getElem?_eq_some_iff.1 hx).1
 obtain ⟨e0, e1, e2⟩ := jF l i x hx
 have s4 : w.cell? ⟨g, i * 3 + 1, none⟩ = some (.string x.f1) := kF hh h6 e1
 have hi0 : (0 : Int) ≤ (i : Int) := by omega
 have hi1 : (i : Int) < (l.length : Int) := by omega
 have hz0 : (x.f1.size : Int) ≤ 262144 := by omega
 obtain ⟨R, hR⟩ : ∃ R, R = rfW data l i true := ⟨_, rfl⟩
 rw [← hR]
 have HR : aC (R = if 262144 - (x.f1.size : Int) < (data.size : Int) then 8 else 0) := ⟨by rw [hR, rfW, if_pos rfl, iM hx]⟩
 clear hR hx hh h6 e0 e1 e2 hsz
 go_enter Tryz.func175, Tryz.ntmps175
 go_wp2_with (go_at_call 160; refine (pF _ _ _).mono ?_; rintro e w' ⟨rfl, rfl⟩)
 refine iI (n := 14) (S := fun w' => w'.cell? ⟨b2, 0, none⟩ = some (.string data) ∧ w'.cell? ⟨b1, 0, none⟩ = some (.pointer (some ⟨gp, 0, none⟩)) ∧ w'.cell? ⟨gp, 0, none⟩ = some (.slice (some ⟨g, 0, none⟩) l.length c) ∧ w'.cell? ⟨g, i * 3 + 1, none⟩ = some (.string x.f1)) (ds := []) #[false, false, false, false, false, false, false, false, false, false, false, false, false, false] (by kernel_rfl) rfl rfl ⟨s3, s1, s2, s4⟩ (fun hHeld => ?_)
 refine puS (i := 7) (N := some 21) (v := ?_) (a' := ?_) rfl rfl (by kernel_rfl) (fun _ _ _ h => h) (Or.inl ⟨by rfl, ?_⟩) ?_ ?_
 rotate_left
 ·intro w'
  go_simp
  with_reducible rfl
 rotate_left
 ·simp only [Act.put, zA, zZ, zS, aI, aJ]
  rfl
 refine tkS (i := 0) (N := some 14) (v := ?_) (a' := ?_) rfl rfl (by kernel_rfl) (fun _ _ _ h => h) (Or.inl ⟨by rfl, ?_⟩) hHeld ?_ ?_
 rotate_left
 ·rintro w' ⟨s0, s1, s2, s3⟩
  go_simp
  with_reducible rfl
 rotate_left
 ·simp only [Act.put, zA, zZ, zS, aI, aJ]
  rfl
 refine puS (i := 1) (N := some 15) (v := ?_) (a' := ?_) rfl rfl (by kernel_rfl) (fun _ _ _ h => h) (Or.inl ⟨by rfl, ?_⟩) ?_ ?_
 rotate_left
 ·intro w'
  go_simp
  with_reducible rfl
 rotate_left
 ·simp only [Act.put, zA, zZ, zS, aI, aJ]
  rfl
 refine tkS (i := 2) (N := some 16) (v := ?_) (a' := ?_) rfl rfl (by kernel_rfl) (fun _ _ _ h => h) (Or.inl ⟨by rfl, ?_⟩) hHeld ?_ ?_
 rotate_left
 ·rintro w' ⟨s0, s1, s2, s3⟩
  go_simp
  with_reducible rfl
 rotate_left
 ·simp only [Act.put, zA, zZ, zS, aI, aJ]
  rfl
 refine puS (i := 3) (N := some 17) (v := ?_) (a' := ?_) rfl rfl (by kernel_rfl) (fun _ _ _ h => h) (Or.inl ⟨by rfl, ?_⟩) ?_ ?_
 rotate_left
 ·intro w'
  go_simp
  with_reducible rfl
 rotate_left
 ·simp only [Act.put, zA, zZ, zS, aI, aJ]
  rfl
 refine puS (i := 4) (N := some 18) (v := ?_) (a' := ?_) rfl rfl (by kernel_rfl) (fun _ _ _ h => h) (Or.inl ⟨by rfl, ?_⟩) ?_ ?_
 rotate_left
 ·intro w'
  go_simp
  with_reducible rfl
 rotate_left
 ·simp only [Act.put, zA, zZ, zS, aI, aJ]
  rfl
 refine puS (i := 5) (N := some 19) (v := ?_) (a' := ?_) rfl rfl (by kernel_rfl) (fun _ _ _ h => h) (Or.inl ⟨by rfl, ?_⟩) ?_ ?_
 rotate_left
 ·intro w'
  go_simp
  with_reducible rfl
 rotate_left
 ·simp only [Act.put, zA, zZ, zS, aI, aJ]
  rfl
 refine tkS (i := 6) (N := some 20) (v := ?_) (a' := ?_) rfl rfl (by kernel_rfl) (fun _ _ _ h => h) (Or.inl ⟨by rfl, ?_⟩) hHeld ?_ ?_
 rotate_left
 ·rintro w' ⟨s0, s1, s2, s3⟩
  go_simp
  with_reducible rfl
 rotate_left
 ·simp only [Act.put, zA, zZ, zS, aI, aJ]
  rfl
 refine puS (i := 8) (N := some 22) (v := ?_) (a' := ?_) rfl rfl (by kernel_rfl) (fun _ _ _ h => h) (Or.inl ⟨by rfl, ?_⟩) ?_ ?_
 rotate_left
 ·intro w'
  go_simp
  with_reducible rfl
 rotate_left
 ·simp only [Act.put, zA, zZ, zS, aI, aJ]
  rfl
 refine puS (i := 9) (N := some 23) (v := ?_) (a' := ?_) rfl rfl (by kernel_rfl) (fun _ _ _ h => h) (Or.inl ⟨by rfl, ?_⟩) ?_ ?_
 rotate_left
 ·intro w'
  go_simp
  with_reducible rfl
 rotate_left
 ·simp only [Act.put, zA, zZ, zS, aI, aJ]
  rfl
 refine tkS (i := 10) (N := some 24) (v := ?_) (a' := ?_) rfl rfl (by kernel_rfl) (fun _ _ _ h => h) (Or.inl ⟨by rfl, ?_⟩) hHeld ?_ ?_
 rotate_left
 ·rintro w' ⟨s0, s1, s2, s3⟩
  go_simp
  with_reducible rfl
 rotate_left
 ·simp only [Act.put, zA, zZ, zS, aI, aJ]
  rfl
 refine puS (i := 11) (N := some 25) (v := ?_) (a' := ?_) rfl rfl (by kernel_rfl) (fun _ _ _ h => h) (Or.inl ⟨by rfl, ?_⟩) ?_ ?_
 rotate_left
 ·intro w'
  go_simp
  with_reducible rfl
 rotate_left
 ·simp only [Act.put, zA, zZ, zS, aI, aJ]
  rfl
 refine puS (i := 12) (N := some 26) (v := ?_) (a' := ?_) rfl rfl (by kernel_rfl) (fun _ _ _ h => h) (Or.inl ⟨by rfl, ?_⟩) ?_ ?_
 rotate_left
 ·intro w'
  go_simp
  with_reducible rfl
 rotate_left
 ·simp only [Act.put, zA, zZ, zS, aI, aJ]
  rfl
 refine puS (i := 13) (N := some 27) (v := ?_) (a' := ?_) rfl rfl (by kernel_rfl) (fun _ _ _ h => h) (Or.inl ⟨by rfl, ?_⟩) ?_ ?_
 rotate_left
 ·intro w'
  go_simp
  with_reducible rfl
 rotate_left
 ·simp only [Act.put, zA, zZ, zS, aI, aJ]
  rfl
 refine jT (by kernel_rfl) ?_
 have e : wrap64 (262144 - (x.f1.size : Int)) = 262144 - (x.f1.size : Int) := by unfold wrap64; omega
 rw [e]
 clear e
 by_cases h : 262144 - (x.f1.size : Int) < (data.size : Int)
 ·have HE : aC (R = 8) := ⟨by rw [HR.out, if_pos h]⟩
  have hd : decide (262144 - (x.f1.size : Int) < (data.size : Int)) = true := by simpa using h
  rw [hd]
  clear h hd
  go_wp2
  go_ret
  exact ⟨by rw [HE.out]; rfl, fK (Below.refl _ _)⟩
 ·have HE : aC (R = 0) := ⟨by rw [HR.out, if_neg h]⟩
  have hd : decide (262144 - (x.f1.size : Int) < (data.size : Int)) = false := by simpa using h
  rw [hd]
  clear h hd
  go_wp2
  go_ret
  exact ⟨by rw [HE.out]; rfl, fK (Below.refl _ _)⟩
theorem MG (w : World) (v2 v1 : Value) (data : ByteArray) (l : List S67) (i : Int) :
  Calls Tryz.prog 175 #[.int .i64 i, .bool false, v2, v1] w fun e w' => e = .returned (.int .i64 (rfW data l i false)) ∧ w = w' := by
 go_enter Tryz.func175, Tryz.ntmps175
 go_wp2_with (go_at_call 160; refine (pF _ _ _).mono ?_; rintro e w' ⟨rfl, rfl⟩)
 go_ret
 exact ⟨rfl, rfl⟩
set_option maxHeartbeats 4000000 in
theorem qbA (gp b1 b2 : Nat) (w : World) (base : Nat) (l : List S67) (data : ByteArray) (A : Option Addr) (c : Nat) (dn : Bool) (fu fa : Int) (i : Nat) (x : S67) (hx : l[i]? = some x) (hsum : x.f1.size + data.size ≤ 262144) (hb1 : w.heap[b1]? = some (.cells #[.pointer (some ⟨gp, 0, none⟩)] 176 (0, 0)))
  (hb2 : w.heap[b2]? = some (.cells #[.string data] 9 (0, 0))) (hp : RN w base gp (.slice A l.length c) l dn fu fa) :
  Calls Tryz.prog 176 #[.int .i64 (i : Int), .pointer (some ⟨b1, 0, none⟩), .pointer (some ⟨b2, 0, none⟩)] w (Done w base gp dn fu fa (l.set i ⟨x.f0, x.f1 ++ data, x.f2⟩)) := by
 obtain ⟨hp, ho⟩ := hp
 have hlt : i < l.length := (List.getElem?_eq_some_iff.1 hx).1
 obtain ⟨g, cur, rfl, _, hg, hh, h3, h4, h5, h6⟩ := lS ho (by omega)
 obtain ⟨e0, e1, e2⟩ := jF l i x hx
 have s1 : w.cell? ⟨b1, 0, none⟩ = some (.pointer (some ⟨gp, 0, none⟩)) := (aH hb1 0).trans rfl
 have s2 : w.cell? ⟨gp, 0, none⟩ = some (.slice (some ⟨g, 0, none⟩) l.length c) := (aH hp 0).trans rfl
 have s3 : w.cell? ⟨b2, 0, none⟩ = some (.string data) := (aH hb2 0).trans rfl
 have s4 : w.cell? ⟨g, i * 3 + 1, none⟩ = some (.string x.f1) := kF hh h6 e1
 have s5 := aG hh (i * 3 + 1)
 have ngp : g ≠ gp := gJ hh hp (by decide)
 have HX := aC.mk hx
 have HO := aC.mk ho
 have HP := aC.mk hp
 have HH := aC.mk hh
 have NGP := aC.mk ngp
 have HG := aC.mk hg
 have hi0 : (0 : Int) ≤ (i : Int) := by omega
 have hi1 : (i : Int) < (l.length : Int) := by omega
 have hs9 : (x.f1.size : Int) + (data.size : Int) ≤ 9223372036854775807 := by omega
 have hs8 : ¬ 9223372036854775807 < x.f1.size + data.size := by omega
 clear hx ho hp hh ngp h3 h4 h5 h6 e0 e1 e2 hb1 hg hb2
 go_enter Tryz.func176, Tryz.ntmps176
 go_wp2
 refine iI (n := 14) (S := fun w' => w'.cell? ⟨b1, 0, none⟩ = some (.pointer (some ⟨gp, 0, none⟩)) ∧ w'.cell? ⟨b2, 0, none⟩ = some (.string data) ∧ w'.cell? ⟨gp, 0, none⟩ = some (.slice (some ⟨g, 0, none⟩) l.length c) ∧ w'.cell? ⟨g, i * 3 + 1, none⟩ = some (.string x.f1)) (ds := [13]) #[false, false, false, false, false, false, false, false, false, false, false, false, false, false] (by kernel_rfl) rfl rfl ⟨s1, s3, s2, s4⟩ (fun hHeld => ?_)
 refine puS (i := 5) (N := some 9) (v := ?_) (a' := ?_) rfl rfl (by kernel_rfl) (fun _ _ _ h => h) (Or.inl ⟨by rfl, ?_⟩) ?_ ?_
 rotate_left
 ·intro w'
  go_simp
  with_reducible rfl
 rotate_left
 ·simp only [Act.put, zA, zZ, zS, aI, aJ]
  rfl
 refine tkS (i := 0) (N := some 4) (v := ?_) (a' := ?_) rfl rfl (by kernel_rfl) (fun _ _ _ h => h) (Or.inl ⟨by rfl, ?_⟩) hHeld ?_ ?_
 rotate_left
 ·rintro w' ⟨s0, s1, s2, s3⟩
  go_simp
  with_reducible rfl
 rotate_left
 ·simp only [Act.put, zA, zZ, zS, aI, aJ]
  rfl
 refine puS (i := 1) (N := some 5) (v := ?_) (a' := ?_) rfl rfl (by kernel_rfl) (fun _ _ _ h => h) (Or.inl ⟨by rfl, ?_⟩) ?_ ?_
 rotate_left
 ·intro w'
  go_simp
  with_reducible rfl
 rotate_left
 ·simp only [Act.put, zA, zZ, zS, aI, aJ]
  rfl
 refine puS (i := 2) (N := some 6) (v := ?_) (a' := ?_) rfl rfl (by kernel_rfl) (fun _ _ _ h => h) (Or.inl ⟨by rfl, ?_⟩) ?_ ?_
 rotate_left
 ·intro w'
  go_simp
  with_reducible rfl
 rotate_left
 ·simp only [Act.put, zA, zZ, zS, aI, aJ]
  rfl
 refine puS (i := 3) (N := some 7) (v := ?_) (a' := ?_) rfl rfl (by kernel_rfl) (fun _ _ _ h => h) (Or.inl ⟨by rfl, ?_⟩) ?_ ?_
 rotate_left
 ·intro w'
  go_simp
  with_reducible rfl
 rotate_left
 ·simp only [Act.put, zA, zZ, zS, aI, aJ]
  rfl
 refine tkS (i := 4) (N := some 8) (v := ?_) (a' := ?_) rfl rfl (by kernel_rfl) (fun _ _ _ h => h) (Or.inl ⟨by rfl, ?_⟩) hHeld ?_ ?_
 rotate_left
 ·rintro w' ⟨s0, s1, s2, s3⟩
  go_simp
  with_reducible rfl
 rotate_left
 ·simp only [Act.put, zA, zZ, zS, aI, aJ]
  rfl
 refine puS (i := 6) (N := some 10) (v := ?_) (a' := ?_) rfl rfl (by kernel_rfl) (fun _ _ _ h => h) (Or.inl ⟨by rfl, ?_⟩) ?_ ?_
 rotate_left
 ·intro w'
  go_simp
  with_reducible rfl
 rotate_left
 ·simp only [Act.put, zA, zZ, zS, aI, aJ]
  rfl
 refine puS (i := 7) (N := some 11) (v := ?_) (a' := ?_) rfl rfl (by kernel_rfl) (fun _ _ _ h => h) (Or.inl ⟨by rfl, ?_⟩) ?_ ?_
 rotate_left
 ·intro w'
  go_simp
  with_reducible rfl
 rotate_left
 ·simp only [Act.put, zA, zZ, zS, aI, aJ]
  rfl
 refine tkS (i := 8) (N := some 12) (v := ?_) (a' := ?_) rfl rfl (by kernel_rfl) (fun _ _ _ h => h) (Or.inl ⟨by rfl, ?_⟩) hHeld ?_ ?_
 rotate_left
 ·rintro w' ⟨s0, s1, s2, s3⟩
  go_simp
  with_reducible rfl
 rotate_left
 ·simp only [Act.put, zA, zZ, zS, aI, aJ]
  rfl
 refine tkS (i := 9) (N := some 13) (v := ?_) (a' := ?_) rfl rfl (by kernel_rfl) (fun _ _ _ h => h) (Or.inl ⟨by rfl, ?_⟩) hHeld ?_ ?_
 rotate_left
 ·rintro w' ⟨s0, s1, s2, s3⟩
  go_simp
  with_reducible rfl
 rotate_left
 ·simp only [Act.put, zA, zZ, zS, aI, aJ]
  rfl
 refine puS (i := 10) (N := some 14) (v := ?_) (a' := ?_) rfl rfl (by kernel_rfl) (fun _ _ _ h => h) (Or.inl ⟨by rfl, ?_⟩) ?_ ?_
 rotate_left
 ·intro w'
  go_simp
  with_reducible rfl
 rotate_left
 ·simp only [Act.put, zA, zZ, zS, aI, aJ]
  rfl
 refine puS (i := 11) (N := some 15) (v := ?_) (a' := ?_) rfl rfl (by kernel_rfl) (fun _ _ _ h => h) (Or.inl ⟨by rfl, ?_⟩) ?_ ?_
 rotate_left
 ·intro w'
  go_simp
  with_reducible rfl
 rotate_left
 ·simp only [Act.put, zA, zZ, zS, aI, aJ]
  rfl
 refine puS (i := 12) (N := some 16) (v := ?_) (a' := ?_) rfl rfl (by kernel_rfl) (fun _ _ _ h => h) (Or.inl ⟨by rfl, ?_⟩) ?_ ?_
 rotate_left
 ·intro w'
  go_simp
  with_reducible rfl
 rotate_left
 ·simp only [Act.put, zA, zZ, zS, aI, aJ]
  rfl
 refine laS (i := 13) (N := none) rfl rfl (by kernel_rfl) (by decide) (fun K hK => ?_)
 refine xO (w1 := ?_) (by rfl) rfl ?_ ?_
 rotate_left
 ·go_simp
  rfl
 refine hK.out _ _ ?_
 clear hK K
 refine jT (by kernel_rfl) ?_
 go_end0
 refine ⟨rfl, .slice (some ⟨g, 0, none⟩) l.length c, bQ (dI (p := ⟨g, i * 3 + 1, none⟩) HP.out (fun e => NGP.out e.symm) _), ?_, fK ((Below.refl base w).setCell HG.out _), fun k cs h => bQ (dI (p := ⟨g, i * 3 + 1, none⟩) h (gJ h HH.out (by decide)) _)⟩
 have h := zL (u := .string (x.f1 ++ data)) HO.out (l' := l.set i ⟨x.f0, x.f1 ++ data, x.f2⟩) (by rw [List.length_set]) (jZ l i x _ HX.out) (j := i * 3 + 1) (by omega)
 rw [List.length_set] at h
 exact h
set_option maxHeartbeats 4000000 in
theorem RQ (W w1 : World) (gp : Nat) (v : Value) (l : List S67) (dn : Bool) (fu fa : Int) (data : ByteArray) (sd : Int → List S67) (hsd : ∀ (i : Nat) (x : S67), l[i]? = some x → x.f1.size + data.size ≤ 262144 → sd (i : Int) = l.set i ⟨x.f0, x.f1 ++ data, x.f2⟩) (hb : Below W.heap.size W w1) (hgp : W.heap.size ≤ gp) (hp : w1.heap[gp]? = some (.cells #[v, .bool dn, .int .i64 fu, .int .i64 fa] 211 (0, 0)))
  (ho : Kd.R k67 67 w1 W.heap.size (fun _ => True) v l) (hok : bI l = true) :
  Calls Tryz.prog 129 #[.pointer (some ⟨gp, 0, none⟩), .string data] w1 fun e w2 => ∃ rv dv : Value, e = .returned (.agg #[rv, dv, .bool true]) ∧ Below w1.heap.size w1 w2 ∧ qcE w2 rv l.length (rfW data l) ∧ DoV W.heap.size gp w2 dv v l (rfW data l) sd := by
 obtain ⟨A, c, rfl⟩ := Kd.dW ho
 have hlt : gp < w1.heap.size := gQ hp
 have hle : l.length ≤ 64 := by
  simp only [bI, Bool.and_eq_true, decide_eq_true_eq] at hok
  exact hok.2
 go_enter Tryz.func129, Tryz.ntmps129
 go_wp2
 refine bodyPost_ret (results_cell_row rfl _ _ (w1.heap.size + 2) 179 #[.func (.func 175) #[] #[.pointer (some ⟨w1.heap.size + 1, 0, none⟩), .pointer (some ⟨w1.heap.size, 0, none⟩)], .func (.func 176) #[] #[.pointer (some ⟨w1.heap.size, 0, none⟩), .pointer (some ⟨w1.heap.size + 1, 0, none⟩)], .bool true] (0, 0) _ rfl (qbr w1 _ _ _) Tryz.underlying179 rfl (by kernel_rfl)) rfl ?_
 refine ⟨_, _, rfl, aU (aU (aU (Below.refl _ _) _) _) _, ⟨175, _, rfl, qby, fun w3 i b hb3 hil hib => ?_⟩, 176, _, rfl, qbz, fun w3 i b dn fu fa hk hil hib hrf hp3 ho3 => ?_⟩
 ·refine fJ (args' := #[.int .i64 (i : Int), .bool b, .pointer (some ⟨w1.heap.size + 1, 0, none⟩), .pointer (some ⟨w1.heap.size, 0, none⟩)]) (by simp) ?_
  have JZ := hb3 _ _ _ (by decide) (by decide) (by simp) (MR w1 _ _ _)
  have J3 := hb3 _ _ _ (by decide) (by decide) (by simp) (MS w1 _ _ _)
  have hpp := hb3 _ _ _ (by decide) (by decide) (by simp) (bG (bG (bG hp _) _) _)
  cases b with
  | false =>
   refine (MG w3 _ _ data l i).mono ?_
   rintro e w4 ⟨rfl, rfl⟩
   exact ⟨rfl, Below.refl _ _⟩
  | true =>
   obtain ⟨x, hx⟩ := vJ (hib rfl)
   obtain ⟨g, cur, rfl, _, hg, hh, h3, h4, h5, h6⟩ := lS ho (by have := hib rfl; omega)
   exact OJ w3 gp w1.heap.size (w1.heap.size + 1) g cur data l c i x hx (pG hok hx).2.1 hle ((aH J3 0).trans rfl) ((aH JZ 0).trans rfl) ((aH hpp 0).trans rfl) (hb3 _ _ _ (by decide) (by decide) (by simp) (bG (bG (bG hh _) _) _)) h6
 ·refine fJ (args' := #[.int .i64 (i : Int), .pointer (some ⟨w1.heap.size, 0, none⟩), .pointer (some ⟨w1.heap.size + 1, 0, none⟩)]) (by simp) ?_
  have JZ := hk _ _ _ (by decide) (by decide) (fun h => by injection h with h; omega) (MR w1 _ _ _)
  have J3 := hk _ _ _ (by decide) (by decide) (fun h => by injection h with h; omega) (MS w1 _ _ _)
  have hsz : W.heap.size ≤ w3.heap.size := by have := gQ hp3; omega
  have hbt : b = true := by
   cases b
   ·simp [rfW] at hrf
   ·rfl
  subst hbt
  obtain ⟨x, hx⟩ := vJ (hib rfl)
  have hsum : x.f1.size + data.size ≤ 262144 := by
   rw [rfW, if_pos rfl, iM hx] at hrf
   split at hrf
   ·cases hrf
   ·have := (pG hok hx).2.1
    omega
  refine (qbA gp w1.heap.size (w1.heap.size + 1) w3 W.heap.size l data A c dn fu fa i x hx hsum JZ J3 ⟨hp3, ho3⟩).mono fun e w4 h => ?_
  rw [hsd i x hx hsum]
  exact h
set_option maxHeartbeats 4000000 in
theorem qbB (W : World) (nb : Nat) (l : List S67) (dn : Bool) (fu fa : Int) (data : ByteArray) (sd : Int → List S67) (hsd : ∀ (i : Nat) (x : S67), l[i]? = some x → x.f1.size + data.size ≤ 262144 → sd (i : Int) = l.set i ⟨x.f0, x.f1 ++ data, x.f2⟩) (hnb : W.heap[nb]? = some (.cells #[.string data] 9 (0, 0))) :
  OfV W 128 #[.pointer (some ⟨nb, 0, none⟩)] l dn fu fa true (rfW data l) sd := by
 intro w1 gp v hb hgp hp ho hok
 have hc := (aH (bJ hnb hb) 0).trans rfl
 refine fJ (args' := #[.pointer (some ⟨gp, 0, none⟩), .pointer (some ⟨nb, 0, none⟩)]) (by simp) ?_
 have HB := aC.mk hb
 have HGP := aC.mk hgp
 have HP := aC.mk hp
 have HO := aC.mk ho
 have HOK := aC.mk hok
 clear hb hgp hp ho hok hnb
 go_enter Tryz.func128, Tryz.ntmps128
 go_wp2_with (first
 |((with_reducible refine aV (N := 3) rfl ?_);
   refine dL ?hg (N := 3) ?hd (cs := #[.nilFunc, .nilFunc, .bool false]) (t := 179) ?hr ?_;
   (case hd => rfl); (case hg => rfl); (case hr => first | (go_simp; done) | (go_simp; rfl));
   intro g3 hg w2 hbox hb2;
   have N3 := aC.mk (show w1.heap.size ≤ g3 by rw [hg]; exact Nat.le_refl _);
   have hc2 := (hb2.cell (World.block_lt_of_cell? w1 _ hc)).trans hc;
   have HB2 := aC.mk hb2; have BK3 := aC.mk hbox; clear hg hbox hb2 hc)
 |fail)
 refine ((RQ W _ gp v l dn fu fa data sd hsd (bD HB.out HB2.out) HGP.out (bJ HP.out HB2.out) (Kd.l9 HO.out HB2.out) HOK.out).mono ?_)
 rintro e w4 ⟨rv, dv, rfl, hb4, ⟨Kr, cr, rfl, hKr, hrf⟩, ⟨Kd_, cd, rfl, hKd, hdo⟩⟩
 have HKr := aC.mk hKr
 have Hrf := aC.mk hrf
 have HKd := aC.mk hKd
 have Hdo := aC.mk hdo
 have HB4 := aC.mk hb4
 have bk := bJ BK3.out hb4
 have c0 := (aH bk 0).trans rfl
 have c1 := (aH bk 1).trans rfl
 have c2 := (aH bk 2).trans rfl
 have f0 := aG bk 0
 have f1 := aG bk 1
 have f2 := aG bk 2
 have BK4 := aC.mk bk
 clear hKr hrf hKd hdo hb4 bk
 go_wp2
 refine bodyPost_ret (results_cell_row rfl _ _ g3 179 #[.func (.func Kr) #[] cr, .func (.func Kd_) #[] cd, .bool true] (0, 0) _ rfl (qcF BK4.out _ _ _) Tryz.underlying179 rfl (by kernel_rfl)) rfl ?_
 have hw4 : Below w1.heap.size w1 w4 := bD HB2.out HB4.out
 have hgg : ∀ (k : Nat), k ≠ g3 → (((w4.setCell ⟨g3, 0, none⟩ (.func (.func Kr) #[] cr)).setCell ⟨g3, 1, none⟩ (.func (.func Kd_) #[] cd)).setCell ⟨g3, 2, none⟩ (.bool true)).heap[k]? = w4.heap[k]? := fun k hk =>
  ((Below.heap_setCell _ ⟨g3, 2, none⟩ _ k hk).trans (Below.heap_setCell _ ⟨g3, 1, none⟩ _ k hk)).trans (Below.heap_setCell _ ⟨g3, 0, none⟩ _ k hk)
 refine ⟨_, _, rfl, below3 hw4 N3.out _ _ _, ⟨Kr, cr, rfl, HKr.out, ?_⟩, Kd_, cd, rfl, HKd.out, ?_⟩
 ·intro w5 i b hk hil hib
  refine Hrf.out w5 i b (fun k cs t h1 h2 h3 h4 => hk k cs t h1 h2 h3 ?_) hil hib
  rw [hgg k (fun e => by subst e; exact absurd h4 (qad BK4.out h1))]
  exact h4
 ·intro w5 i b dn fu fa hk
  refine Hdo.out w5 i b dn fu fa (fun k cs t h1 h2 h3 h4 => hk k cs t h1 h2 h3 ?_)
  rw [hgg k (fun e => by subst e; exact absurd h4 (qad BK4.out h1))]
  exact h4
def rfT (size : Int) (l : List S67) (i : Int) (b : Bool) : Int := if b = true then (if size < 0 ∨ ((dX l i).f1.size : Int) < size then 2 else 0) else 7
theorem qbC : Enters 163 := fun args w => jX Tryz.func163 (by kernel_rfl) (by kernel_rfl) args w
theorem qbD : Enters 164 := fun args w => jX Tryz.func164 (by kernel_rfl) (by kernel_rfl) args w
theorem RS (w : World) (v2 v1 : Value) (size : Int) (l : List S67) (i : Int) :
  Calls Tryz.prog 163 #[.int .i64 i, .bool false, v2, v1] w fun e w' => e = .returned (.int .i64 (rfT size l i false)) ∧ w = w' := by
 go_enter Tryz.func163, Tryz.ntmps163
 go_wp2_with (go_at_call 160; refine (pF _ _ _).mono ?_; rintro e w' ⟨rfl, rfl⟩)
 go_ret
 exact ⟨rfl, rfl⟩
set_option maxHeartbeats 4000000 in
theorem U9 (w : World) (gp b1 b2 g : Nat) (cur : Array Value) (size : Int) (l : List S67) (c : Nat) (i : Nat) (x : S67) (hx : l[i]? = some x) (hn : l.length ≤ 64) (s3 : w.cell? ⟨b2, 0, none⟩ = some (.int .i64 size)) (s1 : w.cell? ⟨b1, 0, none⟩ = some (.pointer (some ⟨gp, 0, none⟩)))
  (s2 : w.cell? ⟨gp, 0, none⟩ = some (.slice (some ⟨g, 0, none⟩) l.length c)) (hh : w.heap[g]? = some (.cells cur 67 (0, 0))) (h6 : cur.toList.take (l.length * 3) = cellsOf l) :
  Calls Tryz.prog 163 #[.int .i64 (i : Int), .bool true, .pointer (some ⟨b2, 0, none⟩), .pointer (some ⟨b1, 0, none⟩)] w fun e w' => e = .returned (.int .i64 (rfT size l i true)) ∧ Below w.heap.size w w' := by
 have hlt : i < l.length := (List.getElem?_eq_some_iff.1 hx).1
 obtain ⟨e0, e1, e2⟩ := jF l i x hx
 have s4 : w.cell? ⟨g, i * 3 + 1, none⟩ = some (.string x.f1) := kF hh h6 e1
 have hi0 : (0 : Int) ≤ (i : Int) := by omega
 have hi1 : (i : Int) < (l.length : Int) := by omega
 obtain ⟨R, hR⟩ : ∃ R, R = rfT size l i true := ⟨_, rfl⟩
 rw [← hR]
 have HR : aC (R = if size < 0 ∨ (x.f1.size : Int) < size then 2 else 0) := ⟨by rw [hR, rfT, if_pos rfl, iM hx]⟩
 clear hR hx hh h6 e0 e1 e2
 by_cases hs : size < 0
 ·have HE : aC (R = 2) := ⟨by rw [HR.out, if_pos (.inl hs)]⟩
  have hd : decide (size < 0) = true := by simpa using hs
  clear hs
  go_enter Tryz.func163, Tryz.ntmps163
  go_wp2_with (go_at_call 160; refine (pF _ _ _).mono ?_; rintro e w' ⟨rfl, rfl⟩)
  refine iI (n := 16) (S := fun w' => w'.cell? ⟨b2, 0, none⟩ = some (.int .i64 size) ∧ w'.cell? ⟨b1, 0, none⟩ = some (.pointer (some ⟨gp, 0, none⟩)) ∧ w'.cell? ⟨gp, 0, none⟩ = some (.slice (some ⟨g, 0, none⟩) l.length c) ∧ w'.cell? ⟨g, i * 3 + 1, none⟩ = some (.string x.f1)) (ds := []) #[false, false, false, false, false, false, false, false, false, false, false, false, false, false, false, false] (by kernel_rfl) rfl rfl ⟨s3, s1, s2, s4⟩ (fun hHeld => ?_)
  refine tkS (i := 0) (N := some 14) (v := ?_) (a' := ?_) rfl rfl (by kernel_rfl) (fun _ _ _ h => h) (Or.inl ⟨by rfl, ?_⟩) hHeld ?_ ?_
  rotate_left
  ·rintro w' ⟨s0, s1, s2, s3⟩
   go_simp
   with_reducible rfl
  rotate_left
  ·simp only [Act.put, zA, zZ, zS, aI, aJ]
   rfl
  refine puS (i := 1) (N := some 15) (v := ?_) (a' := ?_) rfl rfl (by kernel_rfl) (fun _ _ _ h => h) (Or.inl ⟨by rfl, ?_⟩) ?_ ?_
  rotate_left
  ·intro w'
   go_simp
   with_reducible rfl
  rotate_left
  ·simp only [Act.put, zA, zZ, zS, aI, aJ]
   rfl
  refine puS (i := 2) (N := some 16) (v := ?_) (a' := ?_) rfl rfl (by kernel_rfl) (fun _ _ _ h => h) (Or.inl ⟨by rfl, ?_⟩) ?_ ?_
  rotate_left
  ·intro w'
   go_simp
   with_reducible rfl
  rotate_left
  ·simp only [Act.put, zA, zZ, zS, aI, aJ]
   rfl
  refine puS (i := 3) (N := some 17) (v := undef) (a' := ?_) rfl rfl (by kernel_rfl) (fun _ _ _ h => h) (Or.inr ⟨by rfl, rfl⟩) ?_ ?_
  rotate_left
  ·simp only [Act.put, zA, zZ, zS, aI, aJ]
   rfl
  refine puS (i := 4) (N := some 18) (v := undef) (a' := ?_) rfl rfl (by kernel_rfl) (fun _ _ _ h => h) (Or.inr ⟨by rfl, rfl⟩) ?_ ?_
  rotate_left
  ·simp only [Act.put, zA, zZ, zS, aI, aJ]
   rfl
  refine puS (i := 5) (N := some 19) (v := undef) (a' := ?_) rfl rfl (by kernel_rfl) (fun _ _ _ h => h) (Or.inr ⟨by rfl, rfl⟩) ?_ ?_
  rotate_left
  ·simp only [Act.put, zA, zZ, zS, aI, aJ]
   rfl
  refine puS (i := 6) (N := some 20) (v := undef) (a' := ?_) rfl rfl (by kernel_rfl) (fun _ _ _ h => h) (Or.inr ⟨by rfl, rfl⟩) ?_ ?_
  rotate_left
  ·simp only [Act.put, zA, zZ, zS, aI, aJ]
   rfl
  refine puS (i := 7) (N := some 21) (v := undef) (a' := ?_) rfl rfl (by kernel_rfl) (fun _ _ _ h => h) (Or.inr ⟨by rfl, rfl⟩) ?_ ?_
  rotate_left
  ·simp only [Act.put, zA, zZ, zS, aI, aJ]
   rfl
  refine puS (i := 8) (N := some 22) (v := undef) (a' := ?_) rfl rfl (by kernel_rfl) (fun _ _ _ h => h) (Or.inr ⟨by rfl, rfl⟩) ?_ ?_
  rotate_left
  ·simp only [Act.put, zA, zZ, zS, aI, aJ]
   rfl
  refine puS (i := 9) (N := some 23) (v := undef) (a' := ?_) rfl rfl (by kernel_rfl) (fun _ _ _ h => h) (Or.inr ⟨by rfl, rfl⟩) ?_ ?_
  rotate_left
  ·simp only [Act.put, zA, zZ, zS, aI, aJ]
   rfl
  refine puS (i := 10) (N := some 24) (v := undef) (a' := ?_) rfl rfl (by kernel_rfl) (fun _ _ _ h => h) (Or.inr ⟨by rfl, rfl⟩) ?_ ?_
  rotate_left
  ·simp only [Act.put, zA, zZ, zS, aI, aJ]
   rfl
  refine puS (i := 11) (N := some 25) (v := undef) (a' := ?_) rfl rfl (by kernel_rfl) (fun _ _ _ h => h) (Or.inr ⟨by rfl, rfl⟩) ?_ ?_
  rotate_left
  ·simp only [Act.put, zA, zZ, zS, aI, aJ]
   rfl
  refine puS (i := 12) (N := some 26) (v := undef) (a' := ?_) rfl rfl (by kernel_rfl) (fun _ _ _ h => h) (Or.inr ⟨by rfl, rfl⟩) ?_ ?_
  rotate_left
  ·simp only [Act.put, zA, zZ, zS, aI, aJ]
   rfl
  refine puS (i := 13) (N := some 27) (v := undef) (a' := ?_) rfl rfl (by kernel_rfl) (fun _ _ _ h => h) (Or.inr ⟨by rfl, rfl⟩) ?_ ?_
  rotate_left
  ·simp only [Act.put, zA, zZ, zS, aI, aJ]
   rfl
  refine puS (i := 14) (N := some 28) (v := undef) (a' := ?_) rfl rfl (by kernel_rfl) (fun _ _ _ h => h) (Or.inr ⟨by rfl, rfl⟩) ?_ ?_
  rotate_left
  ·simp only [Act.put, zA, zZ, zS, aI, aJ]
   rfl
  refine puS (i := 15) (N := some 29) (v := ?_) (a' := ?_) rfl rfl (by kernel_rfl) (fun _ _ _ h => h) (Or.inl ⟨by rfl, ?_⟩) ?_ ?_
  rotate_left
  ·intro w'
   go_simp
   with_reducible rfl
  rotate_left
  ·simp only [Act.put, zA, zZ, zS, aI, aJ]
   rfl
  refine jT (by kernel_rfl) ?_
  go_wp2
  go_ret
  exact ⟨by rw [HE.out]; rfl, fK (Below.refl _ _)⟩
 ·have hd : decide (size < 0) = false := by simpa using hs
  by_cases hb : (x.f1.size : Int) < size
  ·have HE : aC (R = 2) := ⟨by rw [HR.out, if_pos (.inr hb)]⟩
   have hd2 : decide ((x.f1.size : Int) < size) = true := by simpa using hb
   clear hs hb
   go_enter Tryz.func163, Tryz.ntmps163
   go_wp2_with (go_at_call 160; refine (pF _ _ _).mono ?_; rintro e w' ⟨rfl, rfl⟩)
   refine iI (n := 16) (S := fun w' => w'.cell? ⟨b2, 0, none⟩ = some (.int .i64 size) ∧ w'.cell? ⟨b1, 0, none⟩ = some (.pointer (some ⟨gp, 0, none⟩)) ∧ w'.cell? ⟨gp, 0, none⟩ = some (.slice (some ⟨g, 0, none⟩) l.length c) ∧ w'.cell? ⟨g, i * 3 + 1, none⟩ = some (.string x.f1)) (ds := []) #[false, false, false, false, false, false, false, false, false, false, false, false, false, false, false, false] (by kernel_rfl) rfl rfl ⟨s3, s1, s2, s4⟩ (fun hHeld => ?_)
   refine tkS (i := 0) (N := some 14) (v := ?_) (a' := ?_) rfl rfl (by kernel_rfl) (fun _ _ _ h => h) (Or.inl ⟨by rfl, ?_⟩) hHeld ?_ ?_
   rotate_left
   ·rintro w' ⟨s0, s1, s2, s3⟩
    go_simp
    with_reducible rfl
   rotate_left
   ·simp only [Act.put, zA, zZ, zS, aI, aJ]
    rfl
   refine puS (i := 1) (N := some 15) (v := ?_) (a' := ?_) rfl rfl (by kernel_rfl) (fun _ _ _ h => h) (Or.inl ⟨by rfl, ?_⟩) ?_ ?_
   rotate_left
   ·intro w'
    go_simp
    with_reducible rfl
   rotate_left
   ·simp only [Act.put, zA, zZ, zS, aI, aJ]
    rfl
   refine puS (i := 2) (N := some 16) (v := ?_) (a' := ?_) rfl rfl (by kernel_rfl) (fun _ _ _ h => h) (Or.inl ⟨by rfl, ?_⟩) ?_ ?_
   rotate_left
   ·intro w'
    go_simp
    with_reducible rfl
   rotate_left
   ·simp only [Act.put, zA, zZ, zS, aI, aJ]
    rfl
   refine puS (i := 9) (N := some 23) (v := ?_) (a' := ?_) rfl rfl (by kernel_rfl) (fun _ _ _ h => h) (Or.inl ⟨by rfl, ?_⟩) ?_ ?_
   rotate_left
   ·intro w'
    go_simp
    with_reducible rfl
   rotate_left
   ·simp only [Act.put, zA, zZ, zS, aI, aJ]
    rfl
   refine tkS (i := 3) (N := some 17) (v := ?_) (a' := ?_) rfl rfl (by kernel_rfl) (fun _ _ _ h => h) (Or.inl ⟨by rfl, ?_⟩) hHeld ?_ ?_
   rotate_left
   ·rintro w' ⟨s0, s1, s2, s3⟩
    go_simp
    with_reducible rfl
   rotate_left
   ·simp only [Act.put, zA, zZ, zS, aI, aJ]
    rfl
   refine tkS (i := 4) (N := some 18) (v := ?_) (a' := ?_) rfl rfl (by kernel_rfl) (fun _ _ _ h => h) (Or.inl ⟨by rfl, ?_⟩) hHeld ?_ ?_
   rotate_left
   ·rintro w' ⟨s0, s1, s2, s3⟩
    go_simp
    with_reducible rfl
   rotate_left
   ·simp only [Act.put, zA, zZ, zS, aI, aJ]
    rfl
   refine puS (i := 5) (N := some 19) (v := ?_) (a' := ?_) rfl rfl (by kernel_rfl) (fun _ _ _ h => h) (Or.inl ⟨by rfl, ?_⟩) ?_ ?_
   rotate_left
   ·intro w'
    go_simp
    with_reducible rfl
   rotate_left
   ·simp only [Act.put, zA, zZ, zS, aI, aJ]
    rfl
   refine puS (i := 6) (N := some 20) (v := ?_) (a' := ?_) rfl rfl (by kernel_rfl) (fun _ _ _ h => h) (Or.inl ⟨by rfl, ?_⟩) ?_ ?_
   rotate_left
   ·intro w'
    go_simp
    with_reducible rfl
   rotate_left
   ·simp only [Act.put, zA, zZ, zS, aI, aJ]
    rfl
   refine puS (i := 7) (N := some 21) (v := ?_) (a' := ?_) rfl rfl (by kernel_rfl) (fun _ _ _ h => h) (Or.inl ⟨by rfl, ?_⟩) ?_ ?_
   rotate_left
   ·intro w'
    go_simp
    with_reducible rfl
   rotate_left
   ·simp only [Act.put, zA, zZ, zS, aI, aJ]
    rfl
   refine tkS (i := 8) (N := some 22) (v := ?_) (a' := ?_) rfl rfl (by kernel_rfl) (fun _ _ _ h => h) (Or.inl ⟨by rfl, ?_⟩) hHeld ?_ ?_
   rotate_left
   ·rintro w' ⟨s0, s1, s2, s3⟩
    go_simp
    with_reducible rfl
   rotate_left
   ·simp only [Act.put, zA, zZ, zS, aI, aJ]
    rfl
   refine puS (i := 10) (N := some 24) (v := ?_) (a' := ?_) rfl rfl (by kernel_rfl) (fun _ _ _ h => h) (Or.inl ⟨by rfl, ?_⟩) ?_ ?_
   rotate_left
   ·intro w'
    go_simp
    with_reducible rfl
   rotate_left
   ·simp only [Act.put, zA, zZ, zS, aI, aJ]
    rfl
   refine puS (i := 11) (N := some 25) (v := ?_) (a' := ?_) rfl rfl (by kernel_rfl) (fun _ _ _ h => h) (Or.inl ⟨by rfl, ?_⟩) ?_ ?_
   rotate_left
   ·intro w'
    go_simp
    with_reducible rfl
   rotate_left
   ·simp only [Act.put, zA, zZ, zS, aI, aJ]
    rfl
   refine tkS (i := 12) (N := some 26) (v := ?_) (a' := ?_) rfl rfl (by kernel_rfl) (fun _ _ _ h => h) (Or.inl ⟨by rfl, ?_⟩) hHeld ?_ ?_
   rotate_left
   ·rintro w' ⟨s0, s1, s2, s3⟩
    go_simp
    with_reducible rfl
   rotate_left
   ·simp only [Act.put, zA, zZ, zS, aI, aJ]
    rfl
   refine puS (i := 13) (N := some 27) (v := ?_) (a' := ?_) rfl rfl (by kernel_rfl) (fun _ _ _ h => h) (Or.inl ⟨by rfl, ?_⟩) ?_ ?_
   rotate_left
   ·intro w'
    go_simp
    with_reducible rfl
   rotate_left
   ·simp only [Act.put, zA, zZ, zS, aI, aJ]
    rfl
   refine puS (i := 14) (N := some 28) (v := ?_) (a' := ?_) rfl rfl (by kernel_rfl) (fun _ _ _ h => h) (Or.inl ⟨by rfl, ?_⟩) ?_ ?_
   rotate_left
   ·intro w'
    go_simp
    with_reducible rfl
   rotate_left
   ·simp only [Act.put, zA, zZ, zS, aI, aJ]
    rfl
   refine puS (i := 15) (N := some 29) (v := ?_) (a' := ?_) rfl rfl (by kernel_rfl) (fun _ _ _ h => h) (Or.inl ⟨by rfl, ?_⟩) ?_ ?_
   rotate_left
   ·intro w'
    go_simp
    with_reducible rfl
   rotate_left
   ·simp only [Act.put, zA, zZ, zS, aI, aJ]
    rfl
   refine jT (by kernel_rfl) ?_
   go_wp2
   go_ret
   exact ⟨by rw [HE.out]; rfl, fK (Below.refl _ _)⟩
  ·have HE : aC (R = 0) := ⟨by rw [HR.out, if_neg (by rintro (h | h) <;> contradiction)]⟩
   have hd2 : decide ((x.f1.size : Int) < size) = false := by simpa using hb
   clear hs hb
   go_enter Tryz.func163, Tryz.ntmps163
   go_wp2_with (go_at_call 160; refine (pF _ _ _).mono ?_; rintro e w' ⟨rfl, rfl⟩)
   refine iI (n := 16) (S := fun w' => w'.cell? ⟨b2, 0, none⟩ = some (.int .i64 size) ∧ w'.cell? ⟨b1, 0, none⟩ = some (.pointer (some ⟨gp, 0, none⟩)) ∧ w'.cell? ⟨gp, 0, none⟩ = some (.slice (some ⟨g, 0, none⟩) l.length c) ∧ w'.cell? ⟨g, i * 3 + 1, none⟩ = some (.string x.f1)) (ds := []) #[false, false, false, false, false, false, false, false, false, false, false, false, false, false, false, false] (by kernel_rfl) rfl rfl ⟨s3, s1, s2, s4⟩ (fun hHeld => ?_)
   refine tkS (i := 0) (N := some 14) (v := ?_) (a' := ?_) rfl rfl (by kernel_rfl) (fun _ _ _ h => h) (Or.inl ⟨by rfl, ?_⟩) hHeld ?_ ?_
   rotate_left
   ·rintro w' ⟨s0, s1, s2, s3⟩
    go_simp
    with_reducible rfl
   rotate_left
   ·simp only [Act.put, zA, zZ, zS, aI, aJ]
    rfl
   refine puS (i := 1) (N := some 15) (v := ?_) (a' := ?_) rfl rfl (by kernel_rfl) (fun _ _ _ h => h) (Or.inl ⟨by rfl, ?_⟩) ?_ ?_
   rotate_left
   ·intro w'
    go_simp
    with_reducible rfl
   rotate_left
   ·simp only [Act.put, zA, zZ, zS, aI, aJ]
    rfl
   refine puS (i := 2) (N := some 16) (v := ?_) (a' := ?_) rfl rfl (by kernel_rfl) (fun _ _ _ h => h) (Or.inl ⟨by rfl, ?_⟩) ?_ ?_
   rotate_left
   ·intro w'
    go_simp
    with_reducible rfl
   rotate_left
   ·simp only [Act.put, zA, zZ, zS, aI, aJ]
    rfl
   refine puS (i := 9) (N := some 23) (v := ?_) (a' := ?_) rfl rfl (by kernel_rfl) (fun _ _ _ h => h) (Or.inl ⟨by rfl, ?_⟩) ?_ ?_
   rotate_left
   ·intro w'
    go_simp
    with_reducible rfl
   rotate_left
   ·simp only [Act.put, zA, zZ, zS, aI, aJ]
    rfl
   refine tkS (i := 3) (N := some 17) (v := ?_) (a' := ?_) rfl rfl (by kernel_rfl) (fun _ _ _ h => h) (Or.inl ⟨by rfl, ?_⟩) hHeld ?_ ?_
   rotate_left
   ·rintro w' ⟨s0, s1, s2, s3⟩
    go_simp
    with_reducible rfl
   rotate_left
   ·simp only [Act.put, zA, zZ, zS, aI, aJ]
    rfl
   refine tkS (i := 4) (N := some 18) (v := ?_) (a' := ?_) rfl rfl (by kernel_rfl) (fun _ _ _ h => h) (Or.inl ⟨by rfl, ?_⟩) hHeld ?_ ?_
   rotate_left
   ·rintro w' ⟨s0, s1, s2, s3⟩
    go_simp
    with_reducible rfl
   rotate_left
   ·simp only [Act.put, zA, zZ, zS, aI, aJ]
    rfl
   refine puS (i := 5) (N := some 19) (v := ?_) (a' := ?_) rfl rfl (by kernel_rfl) (fun _ _ _ h => h) (Or.inl ⟨by rfl, ?_⟩) ?_ ?_
   rotate_left
   ·intro w'
    go_simp
    with_reducible rfl
   rotate_left
   ·simp only [Act.put, zA, zZ, zS, aI, aJ]
    rfl
   refine puS (i := 6) (N := some 20) (v := ?_) (a' := ?_) rfl rfl (by kernel_rfl) (fun _ _ _ h => h) (Or.inl ⟨by rfl, ?_⟩) ?_ ?_
   rotate_left
   ·intro w'
    go_simp
    with_reducible rfl
   rotate_left
   ·simp only [Act.put, zA, zZ, zS, aI, aJ]
    rfl
   refine puS (i := 7) (N := some 21) (v := ?_) (a' := ?_) rfl rfl (by kernel_rfl) (fun _ _ _ h => h) (Or.inl ⟨by rfl, ?_⟩) ?_ ?_
   rotate_left
   ·intro w'
    go_simp
    with_reducible rfl
   rotate_left
   ·simp only [Act.put, zA, zZ, zS, aI, aJ]
    rfl
   refine tkS (i := 8) (N := some 22) (v := ?_) (a' := ?_) rfl rfl (by kernel_rfl) (fun _ _ _ h => h) (Or.inl ⟨by rfl, ?_⟩) hHeld ?_ ?_
   rotate_left
   ·rintro w' ⟨s0, s1, s2, s3⟩
    go_simp
    with_reducible rfl
   rotate_left
   ·simp only [Act.put, zA, zZ, zS, aI, aJ]
    rfl
   refine puS (i := 10) (N := some 24) (v := ?_) (a' := ?_) rfl rfl (by kernel_rfl) (fun _ _ _ h => h) (Or.inl ⟨by rfl, ?_⟩) ?_ ?_
   rotate_left
   ·intro w'
    go_simp
    with_reducible rfl
   rotate_left
   ·simp only [Act.put, zA, zZ, zS, aI, aJ]
    rfl
   refine puS (i := 11) (N := some 25) (v := ?_) (a' := ?_) rfl rfl (by kernel_rfl) (fun _ _ _ h => h) (Or.inl ⟨by rfl, ?_⟩) ?_ ?_
   rotate_left
   ·intro w'
    go_simp
    with_reducible rfl
   rotate_left
   ·simp only [Act.put, zA, zZ, zS, aI, aJ]
    rfl
   refine tkS (i := 12) (N := some 26) (v := ?_) (a' := ?_) rfl rfl (by kernel_rfl) (fun _ _ _ h => h) (Or.inl ⟨by rfl, ?_⟩) hHeld ?_ ?_
   rotate_left
   ·rintro w' ⟨s0, s1, s2, s3⟩
    go_simp
    with_reducible rfl
   rotate_left
   ·simp only [Act.put, zA, zZ, zS, aI, aJ]
    rfl
   refine puS (i := 13) (N := some 27) (v := ?_) (a' := ?_) rfl rfl (by kernel_rfl) (fun _ _ _ h => h) (Or.inl ⟨by rfl, ?_⟩) ?_ ?_
   rotate_left
   ·intro w'
    go_simp
    with_reducible rfl
   rotate_left
   ·simp only [Act.put, zA, zZ, zS, aI, aJ]
    rfl
   refine puS (i := 14) (N := some 28) (v := ?_) (a' := ?_) rfl rfl (by kernel_rfl) (fun _ _ _ h => h) (Or.inl ⟨by rfl, ?_⟩) ?_ ?_
   rotate_left
   ·intro w'
    go_simp
    with_reducible rfl
   rotate_left
   ·simp only [Act.put, zA, zZ, zS, aI, aJ]
    rfl
   refine puS (i := 15) (N := some 29) (v := ?_) (a' := ?_) rfl rfl (by kernel_rfl) (fun _ _ _ h => h) (Or.inl ⟨by rfl, ?_⟩) ?_ ?_
   rotate_left
   ·intro w'
    go_simp
    with_reducible rfl
   rotate_left
   ·simp only [Act.put, zA, zZ, zS, aI, aJ]
    rfl
   refine jT (by kernel_rfl) ?_
   go_wp2
   go_ret
   exact ⟨by rw [HE.out]; rfl, fK (Below.refl _ _)⟩
set_option maxHeartbeats 4000000 in
theorem qec (gp b1 b2 : Nat) (w : World) (base : Nat) (l : List S67) (size : Nat) (A : Option Addr) (c : Nat) (dn : Bool) (fu fa : Int) (i : Nat) (x : S67) (hx : l[i]? = some x) (hsz : size ≤ x.f1.size) (hn : l.length ≤ 64) (hs1 : x.f1.size ≤ 262144) (hb1 : w.heap[b1]? = some (.cells #[.pointer (some ⟨gp, 0, none⟩)] 176 (0, 0)))
  (hb2 : w.heap[b2]? = some (.cells #[.int .i64 (size : Int)] 3 (0, 0))) (hp : RN w base gp (.slice A l.length c) l dn fu fa) :
  Calls Tryz.prog 164 #[.int .i64 (i : Int), .pointer (some ⟨b1, 0, none⟩), .pointer (some ⟨b2, 0, none⟩)] w (Done w base gp dn fu fa (l.set i ⟨x.f0, x.f1.extract 0 size, (size : Int)⟩)) := by
 obtain ⟨hp, ho⟩ := hp
 have hlt : i < l.length := (List.getElem?_eq_some_iff.1 hx).1
 obtain ⟨g, cur, rfl, _, hg, hh, h3, h4, h5, h6⟩ := lS ho (by omega)
 obtain ⟨e0, e1, e2⟩ := jF l i x hx
 have s1 : w.cell? ⟨b1, 0, none⟩ = some (.pointer (some ⟨gp, 0, none⟩)) := (aH hb1 0).trans rfl
 have s2 : w.cell? ⟨gp, 0, none⟩ = some (.slice (some ⟨g, 0, none⟩) l.length c) := (aH hp 0).trans rfl
 have s3 : w.cell? ⟨b2, 0, none⟩ = some (.int .i64 (size : Int)) := (aH hb2 0).trans rfl
 have s4 : w.cell? ⟨g, i * 3 + 1, none⟩ = some (.string x.f1) := kF hh h6 e1
 have s6 : w.cell? ⟨g, i * 3 + 2, none⟩ = some (.int .i64 x.f2) := kF hh h6 e2
 have s5 := aG hh (i * 3 + 1)
 have s7 := aG hh (i * 3 + 2)
 have ngp : g ≠ gp := gJ hh hp (by decide)
 have HX := aC.mk hx
 have HO := aC.mk ho
 have HP := aC.mk hp
 have HH := aC.mk hh
 have NGP := aC.mk ngp
 have HG := aC.mk hg
 have hi0 : (0 : Int) ≤ (i : Int) := by omega
 have hi1 : (i : Int) < (l.length : Int) := by omega
 have hz1 : (0 : Int) ≤ (size : Int) := by omega
 have hz2 : (size : Int) ≤ (x.f1.size : Int) := by omega
 clear hx ho hp hh ngp h3 h4 h5 h6 e0 e1 e2 hb1 hg hb2
 go_enter Tryz.func164, Tryz.ntmps164
 go_wp2
 go_region
 go_end0
 have h1 := zL (u := .string (x.f1.extract 0 size)) HO.out (l' := l.set i ⟨x.f0, x.f1.extract 0 size, x.f2⟩) (by rw [List.length_set]) (jZ l i x _ HX.out) (j := i * 3 + 1) (by omega)
 have hx2 : (l.set i ⟨x.f0, x.f1.extract 0 size, x.f2⟩)[i]? = some (⟨x.f0, x.f1.extract 0 size, x.f2⟩ : S67) := by simp [hlt]
 have h2 := zL (u := .int .i64 (size : Int)) h1 (l' := l.set i ⟨x.f0, x.f1.extract 0 size, (size : Int)⟩) (by rw [List.length_set, List.length_set]) (by
  have := kC _ i _ (size : Int) hx2
  rw [this, List.set_set]) (j := i * 3 + 2) (by rw [List.length_set]; omega)
 rw [List.length_set] at h2
 refine ⟨rfl, .slice (some ⟨g, 0, none⟩) l.length c, bQ (dI (p := ⟨g, i * 3 + 2, none⟩) (dI (p := ⟨g, i * 3 + 1, none⟩) HP.out (fun e => NGP.out e.symm) _) (fun e => NGP.out e.symm) _), h2, fK (((Below.refl base w).setCell HG.out _).setCell HG.out _), fun k cs h => ?_⟩
 have hk := gJ h HH.out (by decide)
 exact bQ (dI (p := ⟨g, i * 3 + 2, none⟩) (dI (p := ⟨g, i * 3 + 1, none⟩) h hk _) hk _)
set_option maxHeartbeats 4000000 in
theorem qag (W w1 : World) (gp : Nat) (v : Value) (l : List S67) (dn : Bool) (fu fa : Int) (size : Int) (sd : Int → List S67) (hsd : ∀ (i n : Nat) (x : S67), l[i]? = some x → size = (n : Int) → n ≤ x.f1.size → sd (i : Int) = l.set i ⟨x.f0, x.f1.extract 0 n, (n : Int)⟩) (hb : Below W.heap.size W w1) (hgp : W.heap.size ≤ gp) (hp : w1.heap[gp]? = some (.cells #[v, .bool dn, .int .i64 fu, .int .i64 fa] 211 (0, 0)))
  (ho : Kd.R k67 67 w1 W.heap.size (fun _ => True) v l) (hok : bI l = true) :
  Calls Tryz.prog 120 #[.pointer (some ⟨gp, 0, none⟩), .int .i64 size] w1 fun e w2 => ∃ rv dv : Value, e = .returned (.agg #[rv, dv, .bool false]) ∧ Below w1.heap.size w1 w2 ∧ qcE w2 rv l.length (rfT size l) ∧ DoV W.heap.size gp w2 dv v l (rfT size l) sd := by
 obtain ⟨A, c, rfl⟩ := Kd.dW ho
 have hlt : gp < w1.heap.size := gQ hp
 have hle : l.length ≤ 64 := by
  simp only [bI, Bool.and_eq_true, decide_eq_true_eq] at hok
  exact hok.2
 go_enter Tryz.func120, Tryz.ntmps120
 go_wp2
 refine bodyPost_ret (results_cell_row rfl _ _ (w1.heap.size + 2) 179 #[.func (.func 163) #[] #[.pointer (some ⟨w1.heap.size + 1, 0, none⟩), .pointer (some ⟨w1.heap.size, 0, none⟩)], .func (.func 164) #[] #[.pointer (some ⟨w1.heap.size, 0, none⟩), .pointer (some ⟨w1.heap.size + 1, 0, none⟩)], .bool false] (0, 0) _ rfl (qbr w1 _ _ _) Tryz.underlying179 rfl (by kernel_rfl)) rfl ?_
 refine ⟨_, _, rfl, aU (aU (aU (Below.refl _ _) _) _) _, ⟨163, _, rfl, qbC, fun w3 i b hb3 hil hib => ?_⟩, 164, _, rfl, qbD, fun w3 i b dn fu fa hk hil hib hrf hp3 ho3 => ?_⟩
 ·refine fJ (args' := #[.int .i64 (i : Int), .bool b, .pointer (some ⟨w1.heap.size + 1, 0, none⟩), .pointer (some ⟨w1.heap.size, 0, none⟩)]) (by simp) ?_
  have JZ := hb3 _ _ _ (by decide) (by decide) (by simp) (MR w1 _ _ _)
  have J3 := hb3 _ _ _ (by decide) (by decide) (by simp) (MS w1 _ _ _)
  have hpp := hb3 _ _ _ (by decide) (by decide) (by simp) (bG (bG (bG hp _) _) _)
  cases b with
  | false =>
   refine (RS w3 _ _ size l i).mono ?_
   rintro e w4 ⟨rfl, rfl⟩
   exact ⟨rfl, Below.refl _ _⟩
  | true =>
   obtain ⟨x, hx⟩ := vJ (hib rfl)
   obtain ⟨g, cur, rfl, _, hg, hh, h3, h4, h5, h6⟩ := lS ho (by have := hib rfl; omega)
   exact U9 w3 gp w1.heap.size (w1.heap.size + 1) g cur size l c i x hx hle ((aH J3 0).trans rfl) ((aH JZ 0).trans rfl) ((aH hpp 0).trans rfl) (hb3 _ _ _ (by decide) (by decide) (by simp) (bG (bG (bG hh _) _) _)) h6
 ·refine fJ (args' := #[.int .i64 (i : Int), .pointer (some ⟨w1.heap.size, 0, none⟩), .pointer (some ⟨w1.heap.size + 1, 0, none⟩)]) (by simp) ?_
  have JZ := hk _ _ _ (by decide) (by decide) (fun h => by injection h with h; omega) (MR w1 _ _ _)
  have J3 := hk _ _ _ (by decide) (by decide) (fun h => by injection h with h; omega) (MS w1 _ _ _)
  have hsz : W.heap.size ≤ w3.heap.size := by have := gQ hp3; omega
  have hbt : b = true := by
   cases b
   ·simp [rfT] at hrf
   ·rfl
  subst hbt
  obtain ⟨x, hx⟩ := vJ (hib rfl)
  rw [rfT, if_pos rfl, iM hx] at hrf
  split at hrf
  ·cases hrf
  rename_i hno
  obtain ⟨n, rfl⟩ : ∃ n : Nat, size = (n : Int) := ⟨size.toNat, by omega⟩
  have hn : n ≤ x.f1.size := by omega
  refine (qec gp w1.heap.size (w1.heap.size + 1) w3 W.heap.size l n A c dn fu fa i x hx hn hle (pG hok hx).2.1 JZ J3 ⟨hp3, ho3⟩).mono fun e w4 h => ?_
  rw [hsd i n x hx rfl hn]
  exact h
set_option maxHeartbeats 4000000 in
theorem qee (W : World) (nb : Nat) (l : List S67) (dn : Bool) (fu fa : Int) (size : Int) (sd : Int → List S67) (hsd : ∀ (i n : Nat) (x : S67), l[i]? = some x → size = (n : Int) → n ≤ x.f1.size → sd (i : Int) = l.set i ⟨x.f0, x.f1.extract 0 n, (n : Int)⟩) (hnb : W.heap[nb]? = some (.cells #[.int .i64 size] 3 (0, 0))) :
  OfV W 119 #[.pointer (some ⟨nb, 0, none⟩)] l dn fu fa false (rfT size l) sd := by
 intro w1 gp v hb hgp hp ho hok
 have hc := (aH (bJ hnb hb) 0).trans rfl
 refine fJ (args' := #[.pointer (some ⟨gp, 0, none⟩), .pointer (some ⟨nb, 0, none⟩)]) (by simp) ?_
 have HB := aC.mk hb
 have HGP := aC.mk hgp
 have HP := aC.mk hp
 have HO := aC.mk ho
 have HOK := aC.mk hok
 clear hb hgp hp ho hok hnb
 go_enter Tryz.func119, Tryz.ntmps119
 go_wp2_with (first
 |((with_reducible refine aV (N := 3) rfl ?_);
   refine dL ?hg (N := 3) ?hd (cs := #[.nilFunc, .nilFunc, .bool false]) (t := 179) ?hr ?_;
   (case hd => rfl); (case hg => rfl); (case hr => first | (go_simp; done) | (go_simp; rfl));
   intro g3 hg w2 hbox hb2;
   have N3 := aC.mk (show w1.heap.size ≤ g3 by rw [hg]; exact Nat.le_refl _);
   have hc2 := (hb2.cell (World.block_lt_of_cell? w1 _ hc)).trans hc;
   have HB2 := aC.mk hb2; have BK3 := aC.mk hbox; clear hg hbox hb2 hc)
 |fail)
 refine ((qag W _ gp v l dn fu fa size sd hsd (bD HB.out HB2.out) HGP.out (bJ HP.out HB2.out) (Kd.l9 HO.out HB2.out) HOK.out).mono ?_)
 rintro e w4 ⟨rv, dv, rfl, hb4, ⟨Kr, cr, rfl, hKr, hrf⟩, ⟨Kd_, cd, rfl, hKd, hdo⟩⟩
 have HKr := aC.mk hKr
 have Hrf := aC.mk hrf
 have HKd := aC.mk hKd
 have Hdo := aC.mk hdo
 have HB4 := aC.mk hb4
 have bk := bJ BK3.out hb4
 have c0 := (aH bk 0).trans rfl
 have c1 := (aH bk 1).trans rfl
 have c2 := (aH bk 2).trans rfl
 have f0 := aG bk 0
 have f1 := aG bk 1
 have f2 := aG bk 2
 have BK4 := aC.mk bk
 clear hKr hrf hKd hdo hb4 bk
 go_wp2
 refine bodyPost_ret (results_cell_row rfl _ _ g3 179 #[.func (.func Kr) #[] cr, .func (.func Kd_) #[] cd, .bool false] (0, 0) _ rfl (qcF BK4.out _ _ _) Tryz.underlying179 rfl (by kernel_rfl)) rfl ?_
 have hw4 : Below w1.heap.size w1 w4 := bD HB2.out HB4.out
 have hgg : ∀ (k : Nat), k ≠ g3 → (((w4.setCell ⟨g3, 0, none⟩ (.func (.func Kr) #[] cr)).setCell ⟨g3, 1, none⟩ (.func (.func Kd_) #[] cd)).setCell ⟨g3, 2, none⟩ (.bool false)).heap[k]? = w4.heap[k]? := fun k hk =>
  ((Below.heap_setCell _ ⟨g3, 2, none⟩ _ k hk).trans (Below.heap_setCell _ ⟨g3, 1, none⟩ _ k hk)).trans (Below.heap_setCell _ ⟨g3, 0, none⟩ _ k hk)
 refine ⟨_, _, rfl, below3 hw4 N3.out _ _ _, ⟨Kr, cr, rfl, HKr.out, ?_⟩, Kd_, cd, rfl, HKd.out, ?_⟩
 ·intro w5 i b hk hil hib
  refine Hrf.out w5 i b (fun k cs t h1 h2 h3 h4 => hk k cs t h1 h2 h3 ?_) hil hib
  rw [hgg k (fun e => by subst e; exact absurd h4 (qad BK4.out h1))]
  exact h4
 ·intro w5 i b dn fu fa hk
  refine Hdo.out w5 i b dn fu fa (fun k cs t h1 h2 h3 h4 => hk k cs t h1 h2 h3 ?_)
  rw [hgg k (fun e => by subst e; exact absurd h4 (qad BK4.out h1))]
  exact h4
theorem lT (g k : Nat) (hk : k ≠ g) : ∀ (vs : List Value) (o : Nat) (w : World), (w.setCells g o vs).heap[k]? = w.heap[k]?
 | [], _, _ => rfl
 | v :: r, o, w => by
  rw [World.setCells, lT g k hk r (o + 1)]
  exact Below.heap_setCell w ⟨g, o, none⟩ v k hk
theorem lU {B g : Nat} {w : World} (hB : B ≤ g) : ∀ (vs : List Value) (o : Nat) (W : World), Below B w W → Below B w (W.setCells g o vs)
 | [], _, _, h => h
 | v :: r, o, W, h => lU hB r (o + 1) _ (h.setCell hB v)
def qah : List Value → Nat → List Value → List Value
 | xs, _, [] => xs
 | xs, o, v :: r => qah (xs.set o v) (o + 1) r
theorem wI : ∀ (vs xs : List Value) (o : Nat), o + vs.length ≤ xs.length → qah xs o vs = xs.take o ++ vs ++ xs.drop (o + vs.length)
 | [], xs, o, h => by simp [qah]
 | v :: r, xs, o, h => by
  simp only [List.length_cons] at h
  rw [qah, wI r (xs.set o v) (o + 1) (by rw [List.length_set]; omega)]
  rw [List.take_set, List.drop_set_of_lt (by omega), List.length_cons, show o + 1 + r.length = o + (r.length + 1) by omega]
  have h1 : (xs.take (o + 1)).set o v = xs.take o ++ [v] := by
   rw [List.take_succ_eq_append_getElem (by omega), List.set_append_right _ _ (by rw [List.length_take]; omega)]
   rw [List.length_take, show o - min o xs.length = 0 by omega]
   rfl
  rw [h1]
  simp
theorem kT (g t : Nat) : ∀ (vs : List Value) (o : Nat) (w : World) (cur : Array Value), w.heap[g]? = some (.cells cur t (0, 0)) → ∃ cur', (w.setCells g o vs).heap[g]? = some (.cells cur' t (0, 0)) ∧ cur'.size = cur.size ∧ cur'.toList = qah cur.toList o vs
 | [], o, w, cur, h => ⟨cur, h, rfl, rfl⟩
 | v :: r, o, w, cur, h => by
  obtain ⟨cur', h1, h2, h3⟩ := kT g t r (o + 1) (w.setCell ⟨g, o, none⟩ v) (cur.setIfInBounds o v) (C9 h o v)
  exact ⟨cur', h1, by simpa using h2, by rw [h3]; simp [qah]⟩
theorem qef (w : World) : (zeroValue 67).run Tryz.prog w = .ok (.agg #[.string ⟨#[]⟩, .string ⟨#[]⟩, .int .i64 0]) w := by kernel_rfl
theorem RU (w : World) (ty g o c : Nat) (hc : ∀ j, j < 3 → (w.cell? ⟨g, o + j, none⟩).isSome = true) (hf : ∀ j, j < 3 → w.frozen? ⟨g, o + j, none⟩ = false) :
  (Builtin.clear_ #[25] ty #[.slice (some ⟨g, o, none⟩) 1 c]).run Tryz.prog w = .ok (.tuple #[]) (w.setCells g o [.string ⟨#[]⟩, .string ⟨#[]⟩, .int .i64 0]) := by
 have hzc : (Builtin.zeroCells (Value.agg #[.string ⟨#[]⟩, .string ⟨#[]⟩, .int .i64 0]).cells 1).toList = [.string ⟨#[]⟩, .string ⟨#[]⟩, .int .i64 0] := by kernel_rfl
 have hst := run_storeCells_cells (P := Tryz.prog) g o [.string ⟨#[]⟩, .string ⟨#[]⟩, .int .i64 0] 0 w (by simpa using hc) (by simpa using hf) (by intro v hv'; simp at hv'; rcases hv' with rfl | rfl | rfl <;> rfl)
 simp only [Nat.add_zero] at hst
 simp [Builtin.clear_, run_underlying Tryz.underlying25, qef, hzc, hst]
set_option maxHeartbeats 8000000 in
theorem AO (w : World) (base : Nat) (l : List S67) (g c : Nat) (i m : Nat) (hl : l.length = i + m + 1) (hn : l.length ≤ 64) (ho : Kd.R k67 67 w base (fun _ => True) (.slice (some ⟨g, 0, none⟩) l.length c) l) :
  Calls Tryz.prog 162 #[.slice (some ⟨g, 0, none⟩) (i + m + 1) c, .int .i64 (i : Int), .int .i64 ((i : Int) + 1)] w fun e w4 => e = .returned (.slice (some ⟨g, 0, none⟩) (i + m) c) ∧
   Kd.R k67 67 w4 base (fun _ => True) (.slice (some ⟨g, 0, none⟩) (i + m) c) (l.take i ++ l.drop (i + 1)) ∧ Below base w w4 ∧ ∀ k, k ≠ g → w4.heap[k]? = w.heap[k]? := by
 obtain ⟨g', cur, e, _, hg, hh, h3, h4, h5, h6⟩ := lS ho (by omega)
 injection e with e
 injection e with e
 subst e
 obtain ⟨i0, hi0, hz0, hz1, hz2⟩ := DR
 have hic : i + m + 1 ≤ c := by omega
 have him : i + m + 1 ≤ 64 := by omega
 have hi7 : i ≤ c := by omega
 have hcm : c ≤ 9223372036854775807 := by unfold maxLen at h4; omega
 have hne : ((i : Int) == (i : Int) + 1) = false := by simp; omega
 have HL := aC.mk hl
 have HI0 := aC.mk hi0
 have HZ1 := aC.mk hz1
 have HH := aC.mk hh
 have H6 := aC.mk h6
 have HG := aC.mk hg
 have H5 := aC.mk h5
 have hnews : aC ((cellsOf (l.drop (i + 1))).length = m * 3) := ⟨by rw [cellsOf_length, List.length_drop]; omega⟩
 have hspare : aC (∀ j, j < (cellsOf (l.drop (i + 1))).length → (w.drew.cell? ⟨g, 0 + i * 3 + j, none⟩).isSome = true ∧ w.drew.frozen? ⟨g, 0 + i * 3 + j, none⟩ = false) := ⟨fun j hj => by
  rw [hnews.out] at hj
  refine ⟨?_, aG (bQ hh) _⟩
  rw [aH (bQ hh), Array.getElem?_eq_getElem (by omega)]
  rfl⟩
 have hcell : aC (∀ j u, (cellsOf (l.drop (i + 1)))[j]? = some u → w.drew.cell? ⟨g, (i + 1) * 3 + j, none⟩ = some u) := ⟨fun j u hu => by
  rw [kW, List.getElem?_drop] at hu
  exact kF (bQ hh) h6 hu⟩
 clear hl hi0 hz0 hz1 hz2 hh h6 hg h5 h4 h3 ho hn
 have hend : ∀ W : World, W = (w.drew.setCells g (0 + i * 3) (cellsOf (l.drop (i + 1)))) → aC ((∀ j, j < 3 → (W.cell? ⟨g, (i + m) * 3 + j, none⟩).isSome = true) ∧ (∀ j, j < 3 → W.frozen? ⟨g, (i + m) * 3 + j, none⟩ = false) ∧
   Kd.R k67 67 (W.setCells g ((i + m) * 3) [.string ⟨#[]⟩, .string ⟨#[]⟩, .int .i64 0]) base (fun _ => True) (.slice (some ⟨g, 0, none⟩) (i + m) c) (l.take i ++ l.drop (i + 1)) ∧ Below base w (W.setCells g ((i + m) * 3) [.string ⟨#[]⟩, .string ⟨#[]⟩, .int .i64 0]) ∧
   ∀ k, k ≠ g → (W.setCells g ((i + m) * 3) [.string ⟨#[]⟩, .string ⟨#[]⟩, .int .i64 0]).heap[k]? = w.heap[k]?) := by
  rintro W rfl
  obtain ⟨qeg, hc1, hs1, hl1⟩ := kT g 67 (cellsOf (l.drop (i + 1))) (0 + i * 3) w.drew cur (bQ HH.out)
  obtain ⟨qeh, hc2, hs2, hl2⟩ := kT g 67 [.string ⟨#[]⟩, .string ⟨#[]⟩, .int .i64 0] ((i + m) * 3) _ qeg hc1
  have hsz : cur.size = c * 3 := H5.out
  have hct : cur.toList.length = c * 3 := by simpa using hsz
  refine ⟨fun j hj => ?_, fun j hj => aG hc1 _, ?_, ?_, fun k hk => ?_⟩
  ·rw [aH hc1, Array.getElem?_eq_getElem (by omega)]
   rfl
  ·have hlen : (l.take i ++ l.drop (i + 1)).length = i + m := by rw [List.length_append, List.length_take, List.length_drop, HL.out]; omega
   refine oI ⟨by rw [cellsOf_length], .inr ⟨g, c, qeh, by rw [hlen], HG.out, hc2, by omega, ?_, by omega, ?_⟩⟩
   ·unfold maxLen; omega
   ·rw [hl2, hl1, hlen, wI _ _ _ (by
     rw [wI _ _ _ (by rw [hnews.out, hct]; omega)]
     simp [hct, hnews.out]; omega)]
    rw [wI _ _ _ (by rw [hnews.out, hct]; omega), pX, jY, hnews.out, Nat.zero_add]
    have h6 := H6.out
    have e1 : cur.toList.take (i * 3) = (cellsOf l).take (i * 3) := by rw [← h6, List.take_take]; congr 1; rw [HL.out]; omega
    have e2 : (cur.toList.take (i * 3) ++ cellsOf (l.drop (i + 1))).length = (i + m) * 3 := by rw [List.length_append, List.length_take, hnews.out, hct]; omega
    rw [List.append_assoc, List.take_append_of_le_length (by rw [List.length_take, List.length_append, List.length_append, List.length_take, hnews.out, hct, List.length_drop, hct]; omega)]
    rw [List.take_take, Nat.min_self, List.take_append_of_le_length (by omega), ← e2, List.take_length, e1]
  ·exact lU HG.out _ _ _ (lU HG.out _ _ _ (fK (Below.refl base w)))
  ·rw [lT g k hk, lT g k hk]
   rfl
 have AP := aC.mk hend
 clear hend
 have OL : ∀ (ty c' : Nat) (W : World), W = (w.drew.setCells g (0 + i * 3) (cellsOf (l.drop (i + 1)))) → (Builtin.clear_ #[25] ty #[.slice (some ⟨g, (i + m) * 3, none⟩) 1 c']).run Tryz.prog W = .ok (.tuple #[]) (W.setCells g ((i + m) * 3) [.string ⟨#[]⟩, .string ⟨#[]⟩, .int .i64 0]) := fun ty c' W hW =>
  RU W ty g ((i + m) * 3) c' ((AP.out W hW).out.1) ((AP.out W hW).out.2.1)
 have J4 := aC.mk OL
 clear OL
 by_cases hci : c = i + 1
 ·have hm0 : m = 0 := by omega
  subst hm0
  subst hci
  simp only [Nat.add_zero] at AP J4 HL hic him ⊢
  have z1 : (i : Int) ≤ (i : Int) + 1 := by omega
  have z2 : (0 : Int) ≤ (i : Int) + 1 := by omega
  go_enter Tryz.func162, Tryz.ntmps162
  go_wp2
  refine iI (n := 8) (S := fun w' => True) (ds := []) #[false, false, false, false, false, false, false, false] (by kernel_rfl) rfl rfl trivial (fun hHeld => ?_)
  refine puS (i := 0) (N := some 20) (v := ?_) (a' := ?_) rfl rfl (by kernel_rfl) (fun _ _ _ h => h) (Or.inl ⟨by rfl, ?_⟩) ?_ ?_
  rotate_left
  ·intro w'
   go_simp
   with_reducible rfl
  rotate_left
  ·simp only [Act.put, zA, zZ, zS, aI, aJ]
   rfl
  refine puS (i := 1) (N := some 21) (v := ?_) (a' := ?_) rfl rfl (by kernel_rfl) (fun _ _ _ h => h) (Or.inl ⟨by rfl, ?_⟩) ?_ ?_
  rotate_left
  ·intro w'
   go_simp
   with_reducible rfl
  rotate_left
  ·simp only [Act.put, zA, zZ, zS, aI, aJ]
   rfl
  refine puS (i := 2) (N := some 22) (v := ?_) (a' := ?_) rfl rfl (by kernel_rfl) (fun _ _ _ h => h) (Or.inl ⟨by rfl, ?_⟩) ?_ ?_
  rotate_left
  ·intro w'
   go_simp
   with_reducible rfl
  rotate_left
  ·simp only [Act.put, zA, zZ, zS, aI, aJ]
   rfl
  refine puS (i := 3) (N := some 23) (v := ?_) (a' := ?_) rfl rfl (by kernel_rfl) (fun _ _ _ h => h) (Or.inl ⟨by rfl, ?_⟩) ?_ ?_
  rotate_left
  ·intro w'
   go_simp
   with_reducible rfl
  rotate_left
  ·simp only [Act.put, zA, zZ, zS, aI, aJ]
   rfl
  refine puS (i := 4) (N := some 24) (v := ?_) (a' := ?_) rfl rfl (by kernel_rfl) (fun _ _ _ h => h) (Or.inl ⟨by rfl, ?_⟩) ?_ ?_
  rotate_left
  ·intro w'
   go_simp
   with_reducible rfl
  rotate_left
  ·simp only [Act.put, zA, zZ, zS, aI, aJ]
   rfl
  refine puS (i := 5) (N := some 25) (v := ?_) (a' := ?_) rfl rfl (by kernel_rfl) (fun _ _ _ h => h) (Or.inl ⟨by rfl, ?_⟩) ?_ ?_
  rotate_left
  ·intro w'
   go_simp
   with_reducible rfl
  rotate_left
  ·simp only [Act.put, zA, zZ, zS, aI, aJ]
   rfl
  refine onS (i := 6) (N := some 26) rfl rfl (by kernel_rfl) (by decide) (fun K hK => ?_)
  refine step_append_room rfl (.tmp 22) (.tmp 25) 25 rfl 67 i0 3 Tryz.underlying25 HI0.out HZ1.out g 0 i (i + 1) rfl ⟨g, 0, none⟩ 0 0 (cellsOf (l.drop (i + 1))) rfl hnews.out ?ncz (qW _) (by omega) hspare.out ?_
  case ncz => intro j u hu; exact absurd (List.getElem?_eq_some_iff.1 hu).1 (by rw [hnews.out]; omega)
  refine hK.out _ _ trivial (fun hHeld => ?_)
  clear hK K
  refine fH (a' := ?_) ?_ ?_
  rotate_left
  ·show Act.put _ (some 26) _ = _
   simp only [Act.put, zA, zZ, zS, aI, aJ]
   rfl
  refine puS (i := 7) (N := some 0) (v := ?_) (a' := ?_) rfl rfl (by kernel_rfl) (fun _ _ _ h => h) (Or.inl ⟨by rfl, ?_⟩) ?_ ?_
  rotate_left
  ·intro w'
   go_simp
   with_reducible rfl
  rotate_left
  ·simp only [Act.put, zA, zZ, zS, aI, aJ]
   rfl
  refine jT (by kernel_rfl) ?_
  obtain ⟨W, hW⟩ : ∃ W, W = (w.drew.setCells g (0 + i * 3) (cellsOf (l.drop (i + 1)))) := ⟨_, rfl⟩
  rw [← hW]
  have OL := fun ty c' => J4.out ty c' W hW
  have HW := AP.out W hW
  clear hW AP J4 hHeld
  go_wp2
  go_ret
  exact ⟨rfl, HW.out.2.2.1, HW.out.2.2.2.1, HW.out.2.2.2.2⟩
 ·have z2 : (0 : Int) ≤ (i : Int) + 1 := by omega
  have z3 : (i : Int) + 1 ≤ (i : Int) + (m : Int) + 1 := by omega
  have z4 : i + 1 ≤ c := by omega
  have z5 : (i : Int) + 1 ≤ (c : Int) := by omega
  go_enter Tryz.func162, Tryz.ntmps162
  go_wp2
  refine iI (n := 8) (S := fun w' => True) (ds := []) #[false, false, false, false, false, false, false, false] (by kernel_rfl) rfl rfl trivial (fun hHeld => ?_)
  refine puS (i := 0) (N := some 20) (v := ?_) (a' := ?_) rfl rfl (by kernel_rfl) (fun _ _ _ h => h) (Or.inl ⟨by rfl, ?_⟩) ?_ ?_
  rotate_left
  ·intro w'
   go_simp
   with_reducible rfl
  rotate_left
  ·simp only [Act.put, zA, zZ, zS, aI, aJ]
   rfl
  refine puS (i := 1) (N := some 21) (v := ?_) (a' := ?_) rfl rfl (by kernel_rfl) (fun _ _ _ h => h) (Or.inl ⟨by rfl, ?_⟩) ?_ ?_
  rotate_left
  ·intro w'
   go_simp
   with_reducible rfl
  rotate_left
  ·simp only [Act.put, zA, zZ, zS, aI, aJ]
   rfl
  refine puS (i := 2) (N := some 22) (v := ?_) (a' := ?_) rfl rfl (by kernel_rfl) (fun _ _ _ h => h) (Or.inl ⟨by rfl, ?_⟩) ?_ ?_
  rotate_left
  ·intro w'
   go_simp
   with_reducible rfl
  rotate_left
  ·simp only [Act.put, zA, zZ, zS, aI, aJ]
   rfl
  refine puS (i := 3) (N := some 23) (v := ?_) (a' := ?_) rfl rfl (by kernel_rfl) (fun _ _ _ h => h) (Or.inl ⟨by rfl, ?_⟩) ?_ ?_
  rotate_left
  ·intro w'
   go_simp
   with_reducible rfl
  rotate_left
  ·simp only [Act.put, zA, zZ, zS, aI, aJ]
   rfl
  refine puS (i := 4) (N := some 24) (v := ?_) (a' := ?_) rfl rfl (by kernel_rfl) (fun _ _ _ h => h) (Or.inl ⟨by rfl, ?_⟩) ?_ ?_
  rotate_left
  ·intro w'
   go_simp
   with_reducible rfl
  rotate_left
  ·simp only [Act.put, zA, zZ, zS, aI, aJ]
   rfl
  refine puS (i := 5) (N := some 25) (v := ?_) (a' := ?_) rfl rfl (by kernel_rfl) (fun _ _ _ h => h) (Or.inl ⟨by rfl, ?_⟩) ?_ ?_
  rotate_left
  ·intro w'
   go_simp
   with_reducible rfl
  rotate_left
  ·simp only [Act.put, zA, zZ, zS, aI, aJ]
   rfl
  refine onS (i := 6) (N := some 26) rfl rfl (by kernel_rfl) (by decide) (fun K hK => ?_)
  refine step_append_room rfl (.tmp 22) (.tmp 25) 25 rfl 67 i0 3 Tryz.underlying25 HI0.out HZ1.out g 0 i c rfl ⟨g, (i + 1) * 3, none⟩ m (c - (i + 1)) (cellsOf (l.drop (i + 1))) rfl hnews.out ?ncg (qW _) (by omega) hspare.out ?_
  case ncg => intro j u hu; rw [add_plain']; exact hcell.out j u hu
  refine hK.out _ _ trivial (fun hHeld => ?_)
  clear hK K
  refine fH (a' := ?_) ?_ ?_
  rotate_left
  ·show Act.put _ (some 26) _ = _
   simp only [Act.put, zA, zZ, zS, aI, aJ]
   rfl
  refine puS (i := 7) (N := some 0) (v := ?_) (a' := ?_) rfl rfl (by kernel_rfl) (fun _ _ _ h => h) (Or.inl ⟨by rfl, ?_⟩) ?_ ?_
  rotate_left
  ·intro w'
   go_simp
   with_reducible rfl
  rotate_left
  ·simp only [Act.put, zA, zZ, zS, aI, aJ]
   rfl
  refine jT (by kernel_rfl) ?_
  obtain ⟨W, hW⟩ : ∃ W, W = (w.drew.setCells g (0 + i * 3) (cellsOf (l.drop (i + 1)))) := ⟨_, rfl⟩
  rw [← hW]
  have OL := fun ty c' => J4.out ty c' W hW
  have HW := AP.out W hW
  clear hW AP J4 hHeld
  go_wp2
  go_ret
  exact ⟨rfl, HW.out.2.2.1, HW.out.2.2.2.1, HW.out.2.2.2.2⟩
theorem RV {B : Nat} {w W : World} (h : Below B w.drew W) : Below B w W := ⟨h.os, h.tape, h.output, h.size, h.block⟩
theorem qbE : Enters 161 := fun args w => jX Tryz.func161 (by kernel_rfl) (by kernel_rfl) args w
set_option maxHeartbeats 8000000 in
theorem qai (gp b1 : Nat) (w : World) (base : Nat) (l : List S67) (A : Option Addr) (c : Nat) (dn : Bool) (fu fa : Int) (i : Nat) (hlt : i < l.length) (hn : l.length ≤ 64) (hb1 : w.heap[b1]? = some (.cells #[.pointer (some ⟨gp, 0, none⟩)] 176 (0, 0)))
  (hp : RN w base gp (.slice A l.length c) l dn fu fa) (qbw : base ≤ gp) :
  Calls Tryz.prog 161 #[.int .i64 (i : Int), .pointer (some ⟨b1, 0, none⟩)] w (Done w base gp dn fu fa (l.take i ++ l.drop (i + 1))) := by
 obtain ⟨hp, ho⟩ := hp
 obtain ⟨g, cur, rfl, _, hg, hh, h3, h4, h5, h6⟩ := lS ho (by omega)
 obtain ⟨m, hm⟩ : ∃ m, l.length = i + m + 1 := ⟨l.length - i - 1, by omega⟩
 have s1 : w.cell? ⟨b1, 0, none⟩ = some (.pointer (some ⟨gp, 0, none⟩)) := (aH hb1 0).trans rfl
 have s2 : w.cell? ⟨gp, 0, none⟩ = some (.slice (some ⟨g, 0, none⟩) l.length c) := (aH hp 0).trans rfl
 have ngp : gp ≠ g := fun e => gJ hh hp (by decide) e.symm
 have ngb : b1 ≠ g := fun e => gJ hh hb1 (by decide) e.symm
 obtain ⟨l3, hl3⟩ : ∃ l3, l3 = l.take i ++ l.drop (i + 1) := ⟨_, rfl⟩
 rw [← hl3]
 have HL3 := aC.mk hl3
 have HM := aC.mk hm
 have HO := aC.mk ho
 have HP := aC.mk hp
 have HH := aC.mk hh
 have HB1 := aC.mk hb1
 have NGP := aC.mk ngp
 have NGB := aC.mk ngb
 have HG := aC.mk hg
 have hi0 : (0 : Int) ≤ (i : Int) := by omega
 have hi1 : (i : Int) ≤ 64 := by omega
 clear hl3 hm ho hp hh hb1 ngp ngb h3 h4 h5 h6 hg hlt
 go_enter Tryz.func161, Tryz.ntmps161
 go_wp2
 refine iI (n := 14) (S := fun w' => w'.cell? ⟨b1, 0, none⟩ = some (.pointer (some ⟨gp, 0, none⟩)) ∧ w'.cell? ⟨gp, 0, none⟩ = some (.slice (some ⟨g, 0, none⟩) l.length c)) (ds := [13]) #[false, false, false, false, false, false, false, false, false, false, false, false, false, false] (by kernel_rfl) rfl rfl ⟨s1, s2⟩ (fun hHeld => ?_)
 refine puS (i := 6) (N := some 9) (v := ?_) (a' := ?_) rfl rfl (by kernel_rfl) (fun _ _ _ h => h) (Or.inl ⟨by rfl, ?_⟩) ?_ ?_
 rotate_left
 ·intro w'
  go_simp
  with_reducible rfl
 rotate_left
 ·simp only [Act.put, zA, zZ, zS, aI, aJ]
  rfl
 refine puS (i := 7) (N := some 10) (v := ?_) (a' := ?_) rfl rfl (by kernel_rfl) (fun _ _ _ h => h) (Or.inl ⟨by rfl, ?_⟩) ?_ ?_
 rotate_left
 ·intro w'
  go_simp
  with_reducible rfl
 rotate_left
 ·simp only [Act.put, zA, zZ, zS, aI, aJ]
  rfl
 refine puS (i := 8) (N := some 11) (v := ?_) (a' := ?_) rfl rfl (by kernel_rfl) (fun _ _ _ h => h) (Or.inl ⟨by rfl, ?_⟩) ?_ ?_
 rotate_left
 ·intro w'
  go_simp
  with_reducible rfl
 rotate_left
 ·simp only [Act.put, zA, zZ, zS, aI, aJ]
  rfl
 refine tkS (i := 0) (N := some 3) (v := ?_) (a' := ?_) rfl rfl (by kernel_rfl) (fun _ _ _ h => h) (Or.inl ⟨by rfl, ?_⟩) hHeld ?_ ?_
 rotate_left
 ·rintro w' ⟨s0, s1⟩
  go_simp
  with_reducible rfl
 rotate_left
 ·simp only [Act.put, zA, zZ, zS, aI, aJ]
  rfl
 refine tkS (i := 1) (N := some 4) (v := ?_) (a' := ?_) rfl rfl (by kernel_rfl) (fun _ _ _ h => h) (Or.inl ⟨by rfl, ?_⟩) hHeld ?_ ?_
 rotate_left
 ·rintro w' ⟨s0, s1⟩
  go_simp
  with_reducible rfl
 rotate_left
 ·simp only [Act.put, zA, zZ, zS, aI, aJ]
  rfl
 refine puS (i := 2) (N := some 5) (v := ?_) (a' := ?_) rfl rfl (by kernel_rfl) (fun _ _ _ h => h) (Or.inl ⟨by rfl, ?_⟩) ?_ ?_
 rotate_left
 ·intro w'
  go_simp
  with_reducible rfl
 rotate_left
 ·simp only [Act.put, zA, zZ, zS, aI, aJ]
  rfl
 refine puS (i := 3) (N := some 6) (v := ?_) (a' := ?_) rfl rfl (by kernel_rfl) (fun _ _ _ h => h) (Or.inl ⟨by rfl, ?_⟩) ?_ ?_
 rotate_left
 ·intro w'
  go_simp
  with_reducible rfl
 rotate_left
 ·simp only [Act.put, zA, zZ, zS, aI, aJ]
  rfl
 refine puS (i := 4) (N := some 7) (v := ?_) (a' := ?_) rfl rfl (by kernel_rfl) (fun _ _ _ h => h) (Or.inl ⟨by rfl, ?_⟩) ?_ ?_
 rotate_left
 ·intro w'
  go_simp
  with_reducible rfl
 rotate_left
 ·simp only [Act.put, zA, zZ, zS, aI, aJ]
  rfl
 refine tkS (i := 5) (N := some 8) (v := ?_) (a' := ?_) rfl rfl (by kernel_rfl) (fun _ _ _ h => h) (Or.inl ⟨by rfl, ?_⟩) hHeld ?_ ?_
 rotate_left
 ·rintro w' ⟨s0, s1⟩
  go_simp
  with_reducible rfl
 rotate_left
 ·simp only [Act.put, zA, zZ, zS, aI, aJ]
  rfl
 refine onS (i := 9) (N := some 12) rfl rfl (by kernel_rfl) (by decide) (fun K hK => ?_)
 refine pV Tryz.func162 (by kernel_rfl) rfl #[.slice (some ⟨g, 0, none⟩) l.length c, .int .i64 (i : Int), .int .i64 (wrap64 ((i : Int) + 1))] (by rfl) rfl rfl (by simp only [List.map_toArray, List.map_cons, List.map_nil]; rfl) ?_
 refine (fJ (args' := #[.slice (some ⟨g, 0, none⟩) (i + m + 1) c, .int .i64 (i : Int), .int .i64 ((i : Int) + 1)]) (by rw [HM.out, show wrap64 ((i : Int) + 1) = (i : Int) + 1 by unfold wrap64; omega]) (AO w.drew base l g c i m HM.out hn (Kd.ES HO.out))).mono ?_
 rintro e w4 ⟨rfl, hR, hB, hk⟩
 rw [← HL3.out] at hR
 have HR4 := aC.mk hR
 have HB4 := aC.mk hB
 have hp4 := (hk gp NGP.out).trans HP.out
 have HK4 := aC.mk hk
 have hfr := aG hp4 0
 have HP4 := aC.mk hp4
 have qhP := aC.mk ((hk b1 NGB.out).trans HB1.out)
 clear hR hB hk hp4
 refine ⟨_, rfl, ?_⟩
 refine hK.out _ _ ⟨((aH qhP.out 0).trans rfl), ((aH HP4.out 0).trans rfl)⟩ (fun hHeld => ?_)
 clear hK K
 refine fH (a' := ?_) ?_ ?_
 rotate_left
 ·show Act.put _ (some 12) _ = _
  simp only [Act.put, zA, zZ, zS, aI, aJ]
  rfl
 refine puS (i := 10) (N := some 13) (v := ?_) (a' := ?_) rfl rfl (by kernel_rfl) (fun _ _ _ h => h) (Or.inl ⟨by rfl, ?_⟩) ?_ ?_
 rotate_left
 ·intro w'
  go_simp
  with_reducible rfl
 rotate_left
 ·simp only [Act.put, zA, zZ, zS, aI, aJ]
  rfl
 refine puS (i := 11) (N := some 14) (v := ?_) (a' := ?_) rfl rfl (by kernel_rfl) (fun _ _ _ h => h) (Or.inl ⟨by rfl, ?_⟩) ?_ ?_
 rotate_left
 ·intro w'
  go_simp
  with_reducible rfl
 rotate_left
 ·simp only [Act.put, zA, zZ, zS, aI, aJ]
  rfl
 refine puS (i := 12) (N := some 15) (v := ?_) (a' := ?_) rfl rfl (by kernel_rfl) (fun _ _ _ h => h) (Or.inl ⟨by rfl, ?_⟩) ?_ ?_
 rotate_left
 ·intro w'
  go_simp
  with_reducible rfl
 rotate_left
 ·simp only [Act.put, zA, zZ, zS, aI, aJ]
  rfl
 refine laS (i := 13) (N := none) rfl rfl (by kernel_rfl) (by decide) (fun K hK => ?_)
 refine xO (w1 := ?_) (by rfl) rfl ?_ ?_
 rotate_left
 ·go_simp
  rfl
 refine hK.out _ _ ?_
 clear hK K
 refine jT (by kernel_rfl) ?_
 go_end0
 have hlen : l3.length = i + m := by rw [HL3.out, List.length_append, List.length_take, List.length_drop, HM.out]; omega
 refine ⟨rfl, .slice (some ⟨g, 0, none⟩) (i + m) c, gI (cs := #[.slice (some ⟨g, 0, none⟩) l.length c, .bool dn, .int .i64 fu, .int .i64 fa]) HP4.out 0 _ rfl, R1 (j := 0) HR4.out HP4.out (by decide) _, (RV HB4.out).setCell qbw _, fun k cs h => ?_⟩
 have hk := gJ h HH.out (by decide)
 exact dI (p := ⟨gp, 0, none⟩) ((HK4.out k hk).trans h) (gJ h HP.out (by decide)) _
set_option maxHeartbeats 4000000 in
theorem qaj (W : World) (l : List S67) (dn : Bool) (fu fa : Int) (sd : Int → List S67) (hsd : ∀ (i : Nat), i < l.length → sd (i : Int) = l.take i ++ l.drop (i + 1)) :
  OfV W 118 #[] l dn fu fa false (fun _ b => if b = true then 0 else 7) sd := by
 intro w1 gp v hb hgp hp ho hok
 obtain ⟨A, c, rfl⟩ := Kd.dW ho
 have hlt : gp < w1.heap.size := gQ hp
 have hle : l.length ≤ 64 := by
  simp only [bI, Bool.and_eq_true, decide_eq_true_eq] at hok
  exact hok.2
 go_enter Tryz.func118, Tryz.ntmps118
 go_wp2
 refine bodyPost_ret (results_cell_row rfl _ _ (w1.heap.size + 1) 179 #[.func (.func 160) #[] #[], .func (.func 161) #[] #[.pointer (some ⟨w1.heap.size, 0, none⟩)], .bool false] (0, 0) _ rfl (new2 w1 _ _) Tryz.underlying179 rfl (by kernel_rfl)) rfl ?_
 refine ⟨_, _, rfl, aU (aU (Below.refl _ _) _) _, ⟨160, #[], rfl, RJ, fun w3 i b _ _ _ => fJ (by simp) ((pF i b w3).mono ?_)⟩, 161, _, rfl, qbE, fun w3 i b dn fu fa hk hil hib hrf hp3 ho3 => ?_⟩
 ·rintro e w4 ⟨rfl, rfl⟩
  exact ⟨rfl, Below.refl _ _⟩
 ·have hbt : b = true := by
   cases b
   ·simp at hrf
   ·rfl
  refine fJ (by simp) ((qai gp w1.heap.size w3 W.heap.size l A c dn fu fa i (hib hbt) hle (hk _ _ _ (by decide) (by decide) (fun h => by injection h with h; omega) (new1 w1 _ _)) ⟨hp3, ho3⟩ hgp).mono fun e w4 h => ?_)
  rw [hsd i (hib hbt)]
  exact h
def qX.f (bF : List (S67)) (cO : Bool) (cZ : Int) (dA : Int) (a1 : ByteArray) : Option ((List (S67)) × Bool × Int × Int × Int) := some (bW bF cO cZ dA a1 false (rfC a1 bF.length) (fun i => bF.take i.toNat ++ [(⟨a1, ⟨#[]⟩, 0⟩ : S67)] ++ bF.drop i.toNat))
set_option maxHeartbeats 4000000 in
theorem qX.calls (dQ : Option Addr) (dR : Nat) (bF : List (S67)) (cO : Bool) (cZ : Int) (dA : Int) (a1 : ByteArray) (r1 : List (S67)) (r2 : Bool) (r3 : Int) (r4 : Int) (r5 : Int) (w : World) (jV : Kd.C k67 w dQ bF.length bF) (lF : bF.length ≤ dR) (h : qX.f bF cO cZ dA a1 = some (r1, r2, r3, r4, r5)) :
  Calls Tryz.prog 80 #[.agg #[.slice dQ bF.length dR, .bool cO, .int .i64 cZ, .int .i64 dA], .string a1] w fun e w' => ∃ v0_ : Value, e = .returned (.tuple #[.agg #[v0_, .bool r2, .int .i64 r3, .int .i64 r4], .int .i64 r5]) ∧ Kd.R k67 67 w' w.heap.size (fun _ => True) v0_ r1 ∧ Below w.heap.size w w' := by
 unfold qX.f at h
 have HE := aC.mk (Option.some.inj h)
 clear h
 have HR := aC.mk jV
 have HC := aC.mk lF
 clear jV lF
 have HB := aC.mk (Below.refl w.heap.size w)
 go_enter Tryz.func80, Tryz.ntmps80
 go_wp2_with (first
 |((with_reducible refine aV (N := 2) rfl ?_);
   refine dL ?hg (N := 2) ?hd (cs := #[.slice dQ bF.length dR, .bool cO, .int .i64 cZ, .int .i64 dA]) (t := 27) ?hr ?_;
   (case hd => rfl); (case hg => rfl); (case hr => first | (go_simp; done) | (go_simp; rfl));
   intro gd hg w1 hbox hb;
   have n0_ := aC.mk (bD HB.out hb);
   clear HB; have HB := n0_; have BKD := aC.mk hbox; clear n0_ hg hbox hb)
 |((with_reducible refine aV (N := 3) rfl ?_);
   refine dL ?hg (N := 3) ?hd (cs := #[.string a1]) (t := 9) ?hr ?_;
   (case hd => rfl); (case hg => rfl); (case hr => first | (go_simp; done) | (go_simp; rfl));
   intro gn hg w2 hbox hb;
   have n0_ := aC.mk (bD HB.out hb); have n1_ := aC.mk (bJ BKD.out hb);
   clear HB BKD; have HB := n0_; have BKD := n1_; have BKN := aC.mk hbox; clear n0_ n1_ hg hbox hb)
 |((with_reducible refine aV (N := 4) rfl ?_);
   refine dL ?hg (N := 4) ?hd (cs := #[.slice none 0 0, .bool false, .int .i64 0, .int .i64 0]) (t := 27) ?hr ?_;
   (case hd => rfl); (case hg => rfl); (case hr => first | (go_simp; done) | (go_simp; rfl));
   intro gr hg w3 hbox hb;
   have n0_ := aC.mk (bD HB.out hb); have n1_ := aC.mk (bJ BKD.out hb); have n2_ := aC.mk (bJ BKN.out hb);
   have GR := aC.mk (show w.heap.size ≤ gr by rw [hg]; exact HB.out.size);
   clear HB BKD BKN; have HB := n0_; have BKD := n1_; have BKN := n2_; have BKR := aC.mk hbox; clear n0_ n1_ n2_ hg hbox hb;
   have d0 : w3.cell? ⟨gd, 0, none⟩ = some (.slice dQ bF.length dR) := (aH BKD.out 0).trans rfl;
   have d1 : w3.cell? ⟨gd, 1, none⟩ = some (.bool cO) := (aH BKD.out 1).trans rfl;
   have d2 : w3.cell? ⟨gd, 2, none⟩ = some (.int .i64 cZ) := (aH BKD.out 2).trans rfl;
   have d3 : w3.cell? ⟨gd, 3, none⟩ = some (.int .i64 dA) := (aH BKD.out 3).trans rfl; have dn : w3.cell? ⟨gn, 0, none⟩ = some (.string a1) := (aH BKN.out 0).trans rfl)
 |fail)
 refine ((qV 124 _ (fun args w => jX Tryz.func124 (by kernel_rfl) (by kernel_rfl) args w) dQ dR bF cO cZ dA a1 w3 (Kd.fG HR.out HB.out) HC.out false (rfC a1 bF.length) (fun i => bF.take i.toNat ++ [(⟨a1, ⟨#[]⟩, 0⟩ : S67)] ++ bF.drop i.toNat) ?hof).mono ?_)
 case hof => exact qaf w3 gn bF cO cZ dA a1 _ (fun i hi => by simp) BKN.out
 rw [HE.out]
 rintro e w4 ⟨v, rfl, ho, hb⟩
 have HO := aC.mk (Kd.rY ho HB.out.size)
 obtain ⟨A4, c4, e4⟩ := Kd.dW ho
 subst e4
 have n0_ := aC.mk (bD HB.out hb)
 have bk := bJ BKR.out hb
 have c0 := (aH bk 0).trans rfl
 have c1 := (aH bk 1).trans rfl
 have c2 := (aH bk 2).trans rfl
 have c3 := (aH bk 3).trans rfl
 have f0 := aG bk 0
 have f1 := aG bk 1
 have f2 := aG bk 2
 have f3 := aG bk 3
 have BK4 := aC.mk bk
 clear ho hb bk HB BKD BKR d0 d1 d2 d3 BKN dn
 go_wp2
 refine bodyPost_ret (fM rfl _ _ gr 27 #[.slice A4 r1.length c4, .bool r2, .int .i64 r3, .int .i64 r4] (0, 0) _ rfl (vI BK4.out _ _ _ _) Tryz.underlying27 rfl (by kernel_rfl)) rfl ?_
 exact ⟨_, rfl, R4 HO.out BK4.out (by decide) _ _ _ _, kN n0_.out GR.out _ _ _ _⟩
def qY.f (bF : List (S67)) (cO : Bool) (cZ : Int) (dA : Int) (a1 : ByteArray) (a2 : ByteArray) : Option ((List (S67)) × Bool × Int × Int × Int) := some (bW bF cO cZ dA a1 true (rfW a2 bF) (fun i => bF.set i.toNat ⟨(dX bF i).f0, (dX bF i).f1 ++ a2, (dX bF i).f2⟩))
set_option maxHeartbeats 4000000 in
theorem qY.calls (dQ : Option Addr) (dR : Nat) (bF : List (S67)) (cO : Bool) (cZ : Int) (dA : Int) (a1 : ByteArray) (a2 : ByteArray) (r1 : List (S67)) (r2 : Bool) (r3 : Int) (r4 : Int) (r5 : Int) (w : World) (jV : Kd.C k67 w dQ bF.length bF) (lF : bF.length ≤ dR) (h : qY.f bF cO cZ dA a1 a2 = some (r1, r2, r3, r4, r5)) :
  Calls Tryz.prog 82 #[.agg #[.slice dQ bF.length dR, .bool cO, .int .i64 cZ, .int .i64 dA], .string a1, .string a2] w fun e w' => ∃ v0_ : Value, e = .returned (.tuple #[.agg #[v0_, .bool r2, .int .i64 r3, .int .i64 r4], .int .i64 r5]) ∧ Kd.R k67 67 w' w.heap.size (fun _ => True) v0_ r1 ∧ Below w.heap.size w w' := by
 unfold qY.f at h
 have HE := aC.mk (Option.some.inj h)
 clear h
 have HR := aC.mk jV
 have HC := aC.mk lF
 clear jV lF
 have HB := aC.mk (Below.refl w.heap.size w)
 go_enter Tryz.func82, Tryz.ntmps82
 go_wp2_with (first
 |((with_reducible refine aV (N := 3) rfl ?_);
   refine dL ?hg (N := 3) ?hd (cs := #[.slice dQ bF.length dR, .bool cO, .int .i64 cZ, .int .i64 dA]) (t := 27) ?hr ?_;
   (case hd => rfl); (case hg => rfl); (case hr => first | (go_simp; done) | (go_simp; rfl));
   intro gd hg w1 hbox hb;
   have n0_ := aC.mk (bD HB.out hb);
   clear HB; have HB := n0_; have BKD := aC.mk hbox; clear n0_ hg hbox hb)
 |((with_reducible refine aV (N := 5) rfl ?_);
   refine dL ?hg (N := 5) ?hd (cs := #[.string a2]) (t := 9) ?hr ?_;
   (case hd => rfl); (case hg => rfl); (case hr => first | (go_simp; done) | (go_simp; rfl));
   intro gn hg w2 hbox hb;
   have n0_ := aC.mk (bD HB.out hb); have n1_ := aC.mk (bJ BKD.out hb);
   clear HB BKD; have HB := n0_; have BKD := n1_; have BKN := aC.mk hbox; clear n0_ n1_ hg hbox hb)
 |((with_reducible refine aV (N := 6) rfl ?_);
   refine dL ?hg (N := 6) ?hd (cs := #[.slice none 0 0, .bool false, .int .i64 0, .int .i64 0]) (t := 27) ?hr ?_;
   (case hd => rfl); (case hg => rfl); (case hr => first | (go_simp; done) | (go_simp; rfl));
   intro gr hg w3 hbox hb;
   have n0_ := aC.mk (bD HB.out hb); have n1_ := aC.mk (bJ BKD.out hb); have n2_ := aC.mk (bJ BKN.out hb);
   have GR := aC.mk (show w.heap.size ≤ gr by rw [hg]; exact HB.out.size);
   clear HB BKD BKN; have HB := n0_; have BKD := n1_; have BKN := n2_; have BKR := aC.mk hbox; clear n0_ n1_ n2_ hg hbox hb;
   have d0 : w3.cell? ⟨gd, 0, none⟩ = some (.slice dQ bF.length dR) := (aH BKD.out 0).trans rfl;
   have d1 : w3.cell? ⟨gd, 1, none⟩ = some (.bool cO) := (aH BKD.out 1).trans rfl;
   have d2 : w3.cell? ⟨gd, 2, none⟩ = some (.int .i64 cZ) := (aH BKD.out 2).trans rfl;
   have d3 : w3.cell? ⟨gd, 3, none⟩ = some (.int .i64 dA) := (aH BKD.out 3).trans rfl; have dn : w3.cell? ⟨gn, 0, none⟩ = some (.string a2) := (aH BKN.out 0).trans rfl)
 |fail)
 refine ((qV 128 _ (fun args w => jX Tryz.func128 (by kernel_rfl) (by kernel_rfl) args w) dQ dR bF cO cZ dA a1 w3 (Kd.fG HR.out HB.out) HC.out true (rfW a2 bF) (fun i => bF.set i.toNat ⟨(dX bF i).f0, (dX bF i).f1 ++ a2, (dX bF i).f2⟩) ?hof).mono ?_)
 case hof => exact qbB w3 gn bF cO cZ dA a2 _ (fun i x hx hs => by simp only [Int.toNat_natCast]; rw [iM hx]) BKN.out
 rw [HE.out]
 rintro e w4 ⟨v, rfl, ho, hb⟩
 have HO := aC.mk (Kd.rY ho HB.out.size)
 obtain ⟨A4, c4, e4⟩ := Kd.dW ho
 subst e4
 have n0_ := aC.mk (bD HB.out hb)
 have bk := bJ BKR.out hb
 have c0 := (aH bk 0).trans rfl
 have c1 := (aH bk 1).trans rfl
 have c2 := (aH bk 2).trans rfl
 have c3 := (aH bk 3).trans rfl
 have f0 := aG bk 0
 have f1 := aG bk 1
 have f2 := aG bk 2
 have f3 := aG bk 3
 have BK4 := aC.mk bk
 clear ho hb bk HB BKD BKR d0 d1 d2 d3 BKN dn
 go_wp2
 refine bodyPost_ret (fM rfl _ _ gr 27 #[.slice A4 r1.length c4, .bool r2, .int .i64 r3, .int .i64 r4] (0, 0) _ rfl (vI BK4.out _ _ _ _) Tryz.underlying27 rfl (by kernel_rfl)) rfl ?_
 exact ⟨_, rfl, R4 HO.out BK4.out (by decide) _ _ _ _, kN n0_.out GR.out _ _ _ _⟩
def xU.f (bF : List (S67)) (cO : Bool) (cZ : Int) (dA : Int) (a1 : ByteArray) (a2 : Int) : Option ((List (S67)) × Bool × Int × Int × Int) := some (bW bF cO cZ dA a1 false (rfT a2 bF) (fun i => bF.set i.toNat ⟨(dX bF i).f0, (dX bF i).f1.extract 0 a2.toNat, a2⟩))
set_option maxHeartbeats 4000000 in
theorem xU.calls (dQ : Option Addr) (dR : Nat) (bF : List (S67)) (cO : Bool) (cZ : Int) (dA : Int) (a1 : ByteArray) (a2 : Int) (r1 : List (S67)) (r2 : Bool) (r3 : Int) (r4 : Int) (r5 : Int) (w : World) (jV : Kd.C k67 w dQ bF.length bF) (lF : bF.length ≤ dR) (h : xU.f bF cO cZ dA a1 a2 = some (r1, r2, r3, r4, r5)) :
  Calls Tryz.prog 74 #[.agg #[.slice dQ bF.length dR, .bool cO, .int .i64 cZ, .int .i64 dA], .string a1, .int .i64 a2] w fun e w' => ∃ v0_ : Value, e = .returned (.tuple #[.agg #[v0_, .bool r2, .int .i64 r3, .int .i64 r4], .int .i64 r5]) ∧ Kd.R k67 67 w' w.heap.size (fun _ => True) v0_ r1 ∧ Below w.heap.size w w' := by
 unfold xU.f at h
 have HE := aC.mk (Option.some.inj h)
 clear h
 have HR := aC.mk jV
 have HC := aC.mk lF
 clear jV lF
 have HB := aC.mk (Below.refl w.heap.size w)
 go_enter Tryz.func74, Tryz.ntmps74
 go_wp2_with (first
 |((with_reducible refine aV (N := 3) rfl ?_);
   refine dL ?hg (N := 3) ?hd (cs := #[.slice dQ bF.length dR, .bool cO, .int .i64 cZ, .int .i64 dA]) (t := 27) ?hr ?_;
   (case hd => rfl); (case hg => rfl); (case hr => first | (go_simp; done) | (go_simp; rfl));
   intro gd hg w1 hbox hb;
   have n0_ := aC.mk (bD HB.out hb);
   clear HB; have HB := n0_; have BKD := aC.mk hbox; clear n0_ hg hbox hb)
 |((with_reducible refine aV (N := 5) rfl ?_);
   refine dL ?hg (N := 5) ?hd (cs := #[.int .i64 a2]) (t := 3) ?hr ?_;
   (case hd => rfl); (case hg => rfl); (case hr => first | (go_simp; done) | (go_simp; rfl));
   intro gn hg w2 hbox hb;
   have n0_ := aC.mk (bD HB.out hb); have n1_ := aC.mk (bJ BKD.out hb);
   clear HB BKD; have HB := n0_; have BKD := n1_; have BKN := aC.mk hbox; clear n0_ n1_ hg hbox hb)
 |((with_reducible refine aV (N := 6) rfl ?_);
   refine dL ?hg (N := 6) ?hd (cs := #[.slice none 0 0, .bool false, .int .i64 0, .int .i64 0]) (t := 27) ?hr ?_;
   (case hd => rfl); (case hg => rfl); (case hr => first | (go_simp; done) | (go_simp; rfl));
   intro gr hg w3 hbox hb;
   have n0_ := aC.mk (bD HB.out hb); have n1_ := aC.mk (bJ BKD.out hb); have n2_ := aC.mk (bJ BKN.out hb);
   have GR := aC.mk (show w.heap.size ≤ gr by rw [hg]; exact HB.out.size);
   clear HB BKD BKN; have HB := n0_; have BKD := n1_; have BKN := n2_; have BKR := aC.mk hbox; clear n0_ n1_ n2_ hg hbox hb;
   have d0 : w3.cell? ⟨gd, 0, none⟩ = some (.slice dQ bF.length dR) := (aH BKD.out 0).trans rfl;
   have d1 : w3.cell? ⟨gd, 1, none⟩ = some (.bool cO) := (aH BKD.out 1).trans rfl;
   have d2 : w3.cell? ⟨gd, 2, none⟩ = some (.int .i64 cZ) := (aH BKD.out 2).trans rfl;
   have d3 : w3.cell? ⟨gd, 3, none⟩ = some (.int .i64 dA) := (aH BKD.out 3).trans rfl; have dn : w3.cell? ⟨gn, 0, none⟩ = some (.int .i64 a2) := (aH BKN.out 0).trans rfl)
 |fail)
 refine ((qV 119 _ (fun args w => jX Tryz.func119 (by kernel_rfl) (by kernel_rfl) args w) dQ dR bF cO cZ dA a1 w3 (Kd.fG HR.out HB.out) HC.out false (rfT a2 bF) (fun i => bF.set i.toNat ⟨(dX bF i).f0, (dX bF i).f1.extract 0 a2.toNat, a2⟩) ?hof).mono ?_)
 case hof => exact qee w3 gn bF cO cZ dA a2 _ (fun i n x hx he hn => by subst he; simp only [Int.toNat_natCast]; rw [iM hx]) BKN.out
 rw [HE.out]
 rintro e w4 ⟨v, rfl, ho, hb⟩
 have HO := aC.mk (Kd.rY ho HB.out.size)
 obtain ⟨A4, c4, e4⟩ := Kd.dW ho
 subst e4
 have n0_ := aC.mk (bD HB.out hb)
 have bk := bJ BKR.out hb
 have c0 := (aH bk 0).trans rfl
 have c1 := (aH bk 1).trans rfl
 have c2 := (aH bk 2).trans rfl
 have c3 := (aH bk 3).trans rfl
 have f0 := aG bk 0
 have f1 := aG bk 1
 have f2 := aG bk 2
 have f3 := aG bk 3
 have BK4 := aC.mk bk
 clear ho hb bk HB BKD BKR d0 d1 d2 d3 BKN dn
 go_wp2
 refine bodyPost_ret (fM rfl _ _ gr 27 #[.slice A4 r1.length c4, .bool r2, .int .i64 r3, .int .i64 r4] (0, 0) _ rfl (vI BK4.out _ _ _ _) Tryz.underlying27 rfl (by kernel_rfl)) rfl ?_
 exact ⟨_, rfl, R4 HO.out BK4.out (by decide) _ _ _ _, kN n0_.out GR.out _ _ _ _⟩
def vK.f (bF : List (S67)) (cO : Bool) (cZ : Int) (dA : Int) (a1 : ByteArray) : Option ((List (S67)) × Bool × Int × Int × Int) := some (bW bF cO cZ dA a1 false (fun _ b => if b = true then 0 else 7) (fun i => bF.set i.toNat ⟨(dX bF i).f0, (dX bF i).f1, ((dX bF i).f1.size : Int)⟩))
set_option maxHeartbeats 4000000 in
theorem vK.calls (dQ : Option Addr) (dR : Nat) (bF : List (S67)) (cO : Bool) (cZ : Int) (dA : Int) (a1 : ByteArray) (r1 : List (S67)) (r2 : Bool) (r3 : Int) (r4 : Int) (r5 : Int) (w : World) (jV : Kd.C k67 w dQ bF.length bF) (lF : bF.length ≤ dR) (h : vK.f bF cO cZ dA a1 = some (r1, r2, r3, r4, r5)) :
  Calls Tryz.prog 83 #[.agg #[.slice dQ bF.length dR, .bool cO, .int .i64 cZ, .int .i64 dA], .string a1] w fun e w' => ∃ v0_ : Value, e = .returned (.tuple #[.agg #[v0_, .bool r2, .int .i64 r3, .int .i64 r4], .int .i64 r5]) ∧ Kd.R k67 67 w' w.heap.size (fun _ => True) v0_ r1 ∧ Below w.heap.size w w' := by
 unfold vK.f at h
 have HE := aC.mk (Option.some.inj h)
 clear h
 have HR := aC.mk jV
 have HC := aC.mk lF
 clear jV lF
 have HB := aC.mk (Below.refl w.heap.size w)
 go_enter Tryz.func83, Tryz.ntmps83
 go_wp2_with (first
 |((with_reducible refine aV (N := 2) rfl ?_);
   refine dL ?hg (N := 2) ?hd (cs := #[.slice dQ bF.length dR, .bool cO, .int .i64 cZ, .int .i64 dA]) (t := 27) ?hr ?_;
   (case hd => rfl); (case hg => rfl); (case hr => first | (go_simp; done) | (go_simp; rfl));
   intro gd hg w1 hbox hb;
   have n0_ := aC.mk (bD HB.out hb);
   clear HB; have HB := n0_; have BKD := aC.mk hbox; clear n0_ hg hbox hb)
 |((with_reducible refine aV (N := 4) rfl ?_);
   refine dL ?hg (N := 4) ?hd (cs := #[.slice none 0 0, .bool false, .int .i64 0, .int .i64 0]) (t := 27) ?hr ?_;
   (case hd => rfl); (case hg => rfl); (case hr => first | (go_simp; done) | (go_simp; rfl));
   intro gr hg w3 hbox hb;
   have n0_ := aC.mk (bD HB.out hb); have n1_ := aC.mk (bJ BKD.out hb);
   have GR := aC.mk (show w.heap.size ≤ gr by rw [hg]; exact HB.out.size);
   clear HB BKD; have HB := n0_; have BKD := n1_; have BKR := aC.mk hbox; clear n0_ n1_ hg hbox hb;
   have d0 : w3.cell? ⟨gd, 0, none⟩ = some (.slice dQ bF.length dR) := (aH BKD.out 0).trans rfl;
   have d1 : w3.cell? ⟨gd, 1, none⟩ = some (.bool cO) := (aH BKD.out 1).trans rfl;
   have d2 : w3.cell? ⟨gd, 2, none⟩ = some (.int .i64 cZ) := (aH BKD.out 2).trans rfl;
   have d3 : w3.cell? ⟨gd, 3, none⟩ = some (.int .i64 dA) := (aH BKD.out 3).trans rfl)
 |fail)
 refine ((qV 130 _ (fun args w => jX Tryz.func130 (by kernel_rfl) (by kernel_rfl) args w) dQ dR bF cO cZ dA a1 w3 (Kd.fG HR.out HB.out) HC.out false (fun _ b => if b = true then 0 else 7) (fun i => bF.set i.toNat ⟨(dX bF i).f0, (dX bF i).f1, ((dX bF i).f1.size : Int)⟩) ?hof).mono ?_)
 case hof => exact qcH w3 bF cO cZ dA _ (fun i x hx => by simp only [Int.toNat_natCast]; rw [iM hx])
 rw [HE.out]
 rintro e w4 ⟨v, rfl, ho, hb⟩
 have HO := aC.mk (Kd.rY ho HB.out.size)
 obtain ⟨A4, c4, e4⟩ := Kd.dW ho
 subst e4
 have n0_ := aC.mk (bD HB.out hb)
 have bk := bJ BKR.out hb
 have c0 := (aH bk 0).trans rfl
 have c1 := (aH bk 1).trans rfl
 have c2 := (aH bk 2).trans rfl
 have c3 := (aH bk 3).trans rfl
 have f0 := aG bk 0
 have f1 := aG bk 1
 have f2 := aG bk 2
 have f3 := aG bk 3
 have BK4 := aC.mk bk
 clear ho hb bk HB BKD BKR d0 d1 d2 d3
 go_wp2
 refine bodyPost_ret (fM rfl _ _ gr 27 #[.slice A4 r1.length c4, .bool r2, .int .i64 r3, .int .i64 r4] (0, 0) _ rfl (vI BK4.out _ _ _ _) Tryz.underlying27 rfl (by kernel_rfl)) rfl ?_
 exact ⟨_, rfl, R4 HO.out BK4.out (by decide) _ _ _ _, kN n0_.out GR.out _ _ _ _⟩
def pI.f (bF : List (S67)) (cO : Bool) (cZ : Int) (dA : Int) (a1 : ByteArray) : Option ((List (S67)) × Bool × Int × Int × Int) := some (bW bF cO cZ dA a1 false (fun _ b => if b = true then 0 else 7) (fun i => bF.take i.toNat ++ bF.drop (i.toNat + 1)))
set_option maxHeartbeats 4000000 in
theorem pI.calls (dQ : Option Addr) (dR : Nat) (bF : List (S67)) (cO : Bool) (cZ : Int) (dA : Int) (a1 : ByteArray) (r1 : List (S67)) (r2 : Bool) (r3 : Int) (r4 : Int) (r5 : Int) (w : World) (jV : Kd.C k67 w dQ bF.length bF) (lF : bF.length ≤ dR) (h : pI.f bF cO cZ dA a1 = some (r1, r2, r3, r4, r5)) :
  Calls Tryz.prog 73 #[.agg #[.slice dQ bF.length dR, .bool cO, .int .i64 cZ, .int .i64 dA], .string a1] w fun e w' => ∃ v0_ : Value, e = .returned (.tuple #[.agg #[v0_, .bool r2, .int .i64 r3, .int .i64 r4], .int .i64 r5]) ∧ Kd.R k67 67 w' w.heap.size (fun _ => True) v0_ r1 ∧ Below w.heap.size w w' := by
 unfold pI.f at h
 have HE := aC.mk (Option.some.inj h)
 clear h
 have HR := aC.mk jV
 have HC := aC.mk lF
 clear jV lF
 have HB := aC.mk (Below.refl w.heap.size w)
 go_enter Tryz.func73, Tryz.ntmps73
 go_wp2_with (first
 |((with_reducible refine aV (N := 2) rfl ?_);
   refine dL ?hg (N := 2) ?hd (cs := #[.slice dQ bF.length dR, .bool cO, .int .i64 cZ, .int .i64 dA]) (t := 27) ?hr ?_;
   (case hd => rfl); (case hg => rfl); (case hr => first | (go_simp; done) | (go_simp; rfl));
   intro gd hg w1 hbox hb;
   have n0_ := aC.mk (bD HB.out hb);
   clear HB; have HB := n0_; have BKD := aC.mk hbox; clear n0_ hg hbox hb)
 |((with_reducible refine aV (N := 4) rfl ?_);
   refine dL ?hg (N := 4) ?hd (cs := #[.slice none 0 0, .bool false, .int .i64 0, .int .i64 0]) (t := 27) ?hr ?_;
   (case hd => rfl); (case hg => rfl); (case hr => first | (go_simp; done) | (go_simp; rfl));
   intro gr hg w3 hbox hb;
   have n0_ := aC.mk (bD HB.out hb); have n1_ := aC.mk (bJ BKD.out hb);
   have GR := aC.mk (show w.heap.size ≤ gr by rw [hg]; exact HB.out.size);
   clear HB BKD; have HB := n0_; have BKD := n1_; have BKR := aC.mk hbox; clear n0_ n1_ hg hbox hb;
   have d0 : w3.cell? ⟨gd, 0, none⟩ = some (.slice dQ bF.length dR) := (aH BKD.out 0).trans rfl;
   have d1 : w3.cell? ⟨gd, 1, none⟩ = some (.bool cO) := (aH BKD.out 1).trans rfl;
   have d2 : w3.cell? ⟨gd, 2, none⟩ = some (.int .i64 cZ) := (aH BKD.out 2).trans rfl;
   have d3 : w3.cell? ⟨gd, 3, none⟩ = some (.int .i64 dA) := (aH BKD.out 3).trans rfl)
 |fail)
 refine ((qV 118 _ (fun args w => jX Tryz.func118 (by kernel_rfl) (by kernel_rfl) args w) dQ dR bF cO cZ dA a1 w3 (Kd.fG HR.out HB.out) HC.out false (fun _ b => if b = true then 0 else 7) (fun i => bF.take i.toNat ++ bF.drop (i.toNat + 1)) ?hof).mono ?_)
 case hof => exact qaj w3 bF cO cZ dA _ (fun i hi => by simp)
 rw [HE.out]
 rintro e w4 ⟨v, rfl, ho, hb⟩
 have HO := aC.mk (Kd.rY ho HB.out.size)
 obtain ⟨A4, c4, e4⟩ := Kd.dW ho
 subst e4
 have n0_ := aC.mk (bD HB.out hb)
 have bk := bJ BKR.out hb
 have c0 := (aH bk 0).trans rfl
 have c1 := (aH bk 1).trans rfl
 have c2 := (aH bk 2).trans rfl
 have c3 := (aH bk 3).trans rfl
 have f0 := aG bk 0
 have f1 := aG bk 1
 have f2 := aG bk 2
 have f3 := aG bk 3
 have BK4 := aC.mk bk
 clear ho hb bk HB BKD BKR d0 d1 d2 d3
 go_wp2
 refine bodyPost_ret (fM rfl _ _ gr 27 #[.slice A4 r1.length c4, .bool r2, .int .i64 r3, .int .i64 r4] (0, 0) _ rfl (vI BK4.out _ _ _ _) Tryz.underlying27 rfl (by kernel_rfl)) rfl ?_
 exact ⟨_, rfl, R4 HO.out BK4.out (by decide) _ _ _ _, kN n0_.out GR.out _ _ _ _⟩
theorem qcI (k k' : IntKind) (x y : Int) : Builtin.max2 (.int k x) (.int k' y) = pure (.int k (mx x y)) := gV k k' x y
theorem qcJ (k k' : IntKind) (x y : Int) : Builtin.min2 (.int k x) (.int k' y) = pure (.int k (mn x y)) := gW k k' x y
theorem qe6 {l : List Int} {k : Nat} (h : k < l.length) : l[k]? = some (rd l (k : Int)) := by
 simp [rd, List.getElem?_eq_getElem h]
attribute [local go_sem] qcI qcJ iU iV
def lV (x : S67) : Option Int → Int
 | none => x.f2
 | some v => x.f2 + mn (mx v 0) ((x.f1.size : Int) - x.f2)
def rU (x : S67) (k : Option Int) : S67 := ⟨x.f0, x.f1.extract 0 (lV x k).toNat, lV x k⟩
def fA (l : List S67) (ks : List Int) : List S67 := l.mapIdx fun i x => rU x ks[i]?
theorem jB (l : List S67) (ks : List Int) : (fA l ks).length = l.length := by simp [fA]
theorem AQ {l : List S67} {ks : List Int} {i : Nat} {x : S67} (h : l[i]? = some x) : (fA l ks)[i]? = some (rU x ks[i]?) := by
 simp [fA, List.getElem?_mapIdx, h]
theorem wJ {x : S67} (h0 : 0 ≤ x.f2) (h1 : x.f2 ≤ (x.f1.size : Int)) (k : Option Int) : x.f2 ≤ lV x k ∧ lV x k ≤ (x.f1.size : Int) := by
 cases k with
 | none => exact ⟨Int.le_refl _, h1⟩
 | some v =>
  simp only [lV]
  unfold mn mx
  split <;> split <;> omega
def kP (l : List S67) (ks : List Int) (k : Nat) : List S67 := (fA l ks).take k ++ l.drop k
theorem jC (l : List S67) (ks : List Int) (k : Nat) (h : k ≤ l.length) : (kP l ks k).length = l.length := by
 simp [kP, jB]; omega
theorem qak {l : List S67} {ks : List Int} {k : Nat} {x : S67} (h : l[k]? = some x) : (kP l ks k)[k]? = some x := by
 have hlt : k < l.length := (List.getElem?_eq_some_iff.1 h).1
 rw [kP, List.getElem?_append_right (by simp [jB]; omega)]
 simp [jB]
 rw [show min k l.length = k by omega]
 simpa using h
theorem GX {l : List S67} {ks : List Int} {k : Nat} {x : S67} (h : l[k]? = some x) : (kP l ks k).set k (rU x ks[k]?) = kP l ks (k + 1) := by
 have hlt : k < l.length := (List.getElem?_eq_some_iff.1 h).1
 have hlen : ((fA l ks).take k).length = k := by simp [jB]; omega
 rw [kP, kP, List.set_append_right _ _ (by omega), hlen, Nat.sub_self]
 rw [List.drop_eq_getElem_cons hlt, zZ, List.take_succ_eq_append_getElem (by rw [jB]; exact hlt)]
 have h2 := AQ (ks := ks) h
 rw [List.getElem?_eq_getElem (by rw [jB]; exact hlt)] at h2
 rw [Option.some.inj h2]
 simp
def tC.f (bF : List (S67)) (cO : Bool) (cZ : Int) (dA : Int) (l1 : List Int) : Option ((List (S67)) × Bool × Int × Int × Int) := some (if bI bF = true then (fA bF l1, false, -1, -1, 0) else ([], false, 0, 0, 6))
set_option maxHeartbeats 8000000 in
theorem tC.calls (dQ : Option Addr) (dR : Nat) (bF : List (S67)) (cO : Bool) (cZ : Int) (dA : Int) (A1 : Option Addr) (c1 : Nat) (l1 : List Int) (r1 : List (S67)) (r2 : Bool) (r3 : Int) (r4 : Int) (r5 : Int) (w : World) (jV : Kd.C k67 w dQ bF.length bF) (lF : bF.length ≤ dR) (hr1 : Kd.C (Kd.int .i64) w A1 l1.length l1) (hc1 : l1.length ≤ c1) (h : tC.f bF cO cZ dA l1 = some (r1, r2, r3, r4, r5)) :
  Calls Tryz.prog 23 #[.agg #[.slice dQ bF.length dR, .bool cO, .int .i64 cZ, .int .i64 dA], .slice A1 l1.length c1] w fun e w' => ∃ v0_ : Value, e = .returned (.tuple #[.agg #[v0_, .bool r2, .int .i64 r3, .int .i64 r4], .int .i64 r5]) ∧ Kd.R k67 67 w' w.heap.size (fun _ => True) v0_ r1 ∧ Below w.heap.size w w' := by
 unfold tC.f at h
 have HE := aC.mk (Option.some.inj h)
 clear h
 have HR := aC.mk jV
 have HC := aC.mk lF
 have HK1 := aC.mk hr1
 have hl1 : l1.length ≤ 9223372036854775807 := hr1.2.1
 clear jV lF hr1 hc1
 have HB := aC.mk (Below.refl w.heap.size w)
 go_enter Tryz.func23, Tryz.ntmps23
 go_wp2_with (first
 |((with_reducible refine aV (N := 2) rfl ?_);
   refine dL ?hg (N := 2) ?hd (cs := #[.slice dQ bF.length dR, .bool cO, .int .i64 cZ, .int .i64 dA]) (t := 27) ?hr ?_;
   (case hd => rfl); (case hg => rfl); (case hr => first | (go_simp; done) | (go_simp; rfl));
   intro gd hg w1 hbox hb;
   have n0_ := aC.mk (bD HB.out hb);
   clear HB; have HB := n0_; have BKD := aC.mk hbox; clear n0_ hg hbox hb)
 |((with_reducible refine aV (N := 4) rfl ?_);
   refine dL ?hg (N := 4) ?hd (cs := #[.slice none 0 0, .bool false, .int .i64 0, .int .i64 0]) (t := 27) ?hr ?_;
   (case hd => rfl); (case hg => rfl); (case hr => first | (go_simp; done) | (go_simp; rfl));
   intro gr hg w3 hbox hb;
   have n0_ := aC.mk (bD HB.out hb); have n1_ := aC.mk (bJ BKD.out hb);
   have GR := aC.mk (show w.heap.size ≤ gr by rw [hg]; exact HB.out.size);
   clear HB BKD; have HB := n0_; have BKD := n1_; have BKR := aC.mk hbox; clear n0_ n1_ hg hbox hb;
   have d0 : w3.cell? ⟨gd, 0, none⟩ = some (.slice dQ bF.length dR) := (aH BKD.out 0).trans rfl;
   have d1 : w3.cell? ⟨gd, 1, none⟩ = some (.bool cO) := (aH BKD.out 1).trans rfl;
   have d2 : w3.cell? ⟨gd, 2, none⟩ = some (.int .i64 cZ) := (aH BKD.out 2).trans rfl;
   have d3 : w3.cell? ⟨gd, 3, none⟩ = some (.int .i64 dA) := (aH BKD.out 3).trans rfl)
 |fail)
 by_cases hok : bI bF = true
 ·have HE2 : aC ((fA bF l1, false, (-1 : Int), (-1 : Int), (0 : Int)) = (r1, r2, r3, r4, r5)) := ⟨by have := HE.out; rwa [if_pos hok] at this⟩
  have hle : bF.length ≤ 64 := by
   simp only [bI, Bool.and_eq_true, decide_eq_true_eq] at hok
   exact hok.2
  have HOK := aC.mk hok
  refine ((dO.calls dQ dR bF cO cZ dA 0 w3 (Kd.fG HR.out HB.out) HC.out (by rw [dO.f, if_pos hok])).mono ?_)
  clear hok HE
  rintro e w4 ⟨rfl, hb⟩
  have n0_ := aC.mk (bD HB.out hb); have n1_ := aC.mk (bJ BKD.out hb); have n2_ := aC.mk (bJ BKR.out hb)
  clear HB BKD BKR d0 d1 d2 d3 hb; have HB := n0_; have BKD := n1_; have BKR := n2_; clear n0_ n1_ n2_
  have d0 : w4.cell? ⟨gd, 0, none⟩ = some (.slice dQ bF.length dR) := (aH BKD.out 0).trans rfl
  go_wp2_with fail
  refine ((pW.calls dQ dR bF bF w4 (Kd.fG HR.out HB.out) HC.out (by rw [pW.f, if_pos (by omega)])).mono ?_)
  rintro e w5 ⟨v, rfl, ho, hb⟩
  have n0_ := aC.mk (bD HB.out hb); have n2_ := aC.mk (bJ BKR.out hb); have HO := aC.mk (Kd.rY ho HB.out.size)
  obtain ⟨A, c, e⟩ := Kd.dW ho
  subst e
  clear HB BKD BKR d0 hb ho; have HB := n0_; have BKR := n2_; clear n0_ n2_
  go_wp2_with (first
 |((with_reducible refine aV (N := 7) rfl ?_);
   refine dL ?hg (N := 7) ?hd (cs := #[.slice none 0 0, .bool false, .int .i64 0, .int .i64 0]) (t := 27) ?hr ?_;
   (case hd => rfl); (case hg => rfl); (case hr => first | (go_simp; done) | (go_simp; rfl));
   intro go hg w6 hbox hb;
   have n0_ := aC.mk (bD HB.out hb); have n1_ := aC.mk (bJ BKR.out hb); have n2_ := aC.mk (Kd.l9 HO.out hb);
   have GO := aC.mk (show w.heap.size ≤ go by rw [hg]; exact HB.out.size); have NRO := aC.mk (show gr ≠ go by rw [hg]; exact Nat.ne_of_lt (gQ BKR.out));
   clear HB BKR HO; have HB := n0_; have BKR := n1_; have HO := n2_; have BKO := aC.mk hbox; clear n0_ n1_ n2_ hg hbox hb;
   have o0 : w6.cell? ⟨go, 0, none⟩ = some (.slice none 0 0) := (aH BKO.out 0).trans rfl;
   have o1 : w6.cell? ⟨go, 1, none⟩ = some (.bool false) := (aH BKO.out 1).trans rfl;
   have o2 : w6.cell? ⟨go, 2, none⟩ = some (.int .i64 0) := (aH BKO.out 2).trans rfl;
   have o3 : w6.cell? ⟨go, 3, none⟩ = some (.int .i64 0) := (aH BKO.out 3).trans rfl;
   have of0 := aG BKO.out 0; have of1 := aG BKO.out 1; have of2 := aG BKO.out 2; have of3 := aG BKO.out 3)
 |fail)
  go_loopw [23] (fun v23 wr => ∃ k : Nat, v23 = .int .i64 (k : Int) ∧ k ≤ bF.length ∧ aC (Below w.heap.size w wr) ∧ aC (wr.heap[gr]? = some (.cells #[.slice none 0 0, .bool false, .int .i64 0, .int .i64 0] 27 (0, 0)))
    ∧ aC (wr.heap[go]? = some (.cells #[.slice A bF.length c, .bool false, .int .i64 (-1), .int .i64 (-1)] 27 (0, 0))) ∧ aC (Kd.R k67 67 wr w.heap.size (fun _ => True) (.slice A bF.length c) (kP bF l1 k)))
   (fun v23 _ => bF.length - (intOf v23).toNat)
  case atStart =>
   refine ⟨0, rfl, by omega, ⟨kN HB.out GO.out _ _ _ _⟩, ⟨qhF BKR.out NRO.out _ _ _ _⟩, ⟨vI BKO.out _ _ _ _⟩, ⟨?_⟩⟩
   have e : kP bF l1 0 = bF := by simp [kP]
   rw [e]
   exact R4 HO.out BKO.out (by decide) _ _ _ _
  case round =>
   clear HB BKR BKO HO o0 o1 o2 o3 of0 of1 of2 of3
   obtain ⟨k, rfl, hkn, HB, BKR, BKO, HO⟩ := hrel
   by_cases hlt : k < bF.length
   ·obtain ⟨x, hx⟩ : ∃ x, bF[k]? = some x := ⟨_, List.getElem?_eq_getElem hlt⟩
    have hck := jC bF l1 k hkn
    have hxk := qak (ks := l1) hx
    have ⟨e0, e1, e2⟩ := jF _ k x hxk
    rw [← hck] at HO
    obtain ⟨g, cur, hA, _, hg, hh, h3, h4, h5, h6⟩ := lS HO.out (by omega)
    subst hA
    rw [hck] at HO h3
    have s1 : wr.cell? ⟨go, 0, none⟩ = some (.slice (some ⟨g, 0, none⟩) bF.length c) := (aH BKO.out 0).trans rfl
    have s3 : wr.cell? ⟨g, k * 3 + 1, none⟩ = some (.string x.f1) := kF hh h6 e1
    have s4 : wr.cell? ⟨g, k * 3 + 2, none⟩ = some (.int .i64 x.f2) := kF hh h6 e2
    have s5 := aG hh (k * 3 + 2)
    have s6 := aG hh (k * 3 + 1)
    have NGO := aC.mk (show g ≠ go from gJ hh BKO.out (by decide))
    have NGR := aC.mk (show g ≠ gr from gJ hh BKR.out (by decide))
    have HG := aC.mk hg
    have HH := aC.mk hh
    have HX := aC.mk hx
    have HXK := aC.mk hxk
    have hr2 := pG HOK.out hx
    have hi0 : (0 : Int) ≤ (k : Int) := by omega
    have hi1 : (k : Int) < (bF.length : Int) := by omega
    clear hh hg h4 h5 h6 e0 e1 e2 hx hxk hck
    by_cases hk2 : k < l1.length
    ·obtain ⟨ad, e, hkc⟩ := Kd.qd2 HK1.out (k : Int) (by omega) (by omega)
     subst e
     have hkb := World.block_lt_of_cell? w _ hkc
     have hne : ad.block ≠ g := fun e => by rw [add_block] at hkb; have := HG.out; omega
     have qhQ := (HB.out.cell hkb).trans hkc
     clear hkc hkb
     have hi2 : (k : Int) < (l1.length : Int) := by omega
     simp only [Int.toNat_natCast] at qhQ
     have hS := wJ hr2.2.2.1 hr2.2.2.2 (some (rd l1 (k : Int)))
     simp only [lV] at hS
     have hm1 : 0 ≤ mn (mx (rd l1 (k : Int)) 0) ((x.f1.size : Int) - x.f2) := by omega
     have hm2 : mn (mx (rd l1 (k : Int)) 0) ((x.f1.size : Int) - x.f2) ≤ (x.f1.size : Int) - x.f2 := by omega
     go_wp2
     go_region
     go_wp2
     go_region
     go_wp2
     have el : l1[k]? = some (rd l1 (k : Int)) := qe6 hk2
     obtain ⟨q, hq⟩ : ∃ q, q = lV x (some (rd l1 (k : Int))) := ⟨_, rfl⟩
     have e : kP bF l1 (k + 1) = (((kP bF l1 k).set k ⟨x.f0, x.f1, q⟩).set k ⟨x.f0, x.f1.extract 0 q.toNat, q⟩) := by
      rw [← GX (ks := l1) HX.out, el, List.set_set, rU, ← hq]
     rw [show x.f2 + mn (mx (rd l1 (k : Int)) 0) ((x.f1.size : Int) - x.f2) = q from hq.symm]
     refine ⟨⟨k + 1, by congr 1, by omega, ⟨fK (bK (fK (bK HB.out HG.out)) HG.out)⟩,
      ⟨bQ (dI (p := ⟨g, k * 3 + 1, none⟩) (bQ (dI (p := ⟨g, k * 3 + 2, none⟩) BKR.out (fun e => NGR.out e.symm) _)) (fun e => NGR.out e.symm) _)⟩,
      ⟨bQ (dI (p := ⟨g, k * 3 + 1, none⟩) (bQ (dI (p := ⟨g, k * 3 + 2, none⟩) BKO.out (fun e => NGO.out e.symm) _)) (fun e => NGO.out e.symm) _)⟩, ⟨?_⟩⟩, by simp [intOf]; omega⟩
     have ho := HO.out
     rw [← jC bF l1 k hkn] at ho
     have h := zL (u := .int .i64 q) ho (l' := (kP bF l1 k).set k ⟨x.f0, x.f1, q⟩) (by rw [List.length_set]) (kC _ k x _ HXK.out) (j := k * 3 + 2) (by rw [jC bF l1 k hkn]; omega)
     have h := zL (u := .string (x.f1.extract 0 q.toNat)) h (l' := ((kP bF l1 k).set k ⟨x.f0, x.f1, q⟩).set k ⟨x.f0, x.f1.extract 0 q.toNat, q⟩) (by rw [List.length_set]) (jZ _ k ⟨x.f0, x.f1, q⟩ _ (by rw [List.getElem?_set_self (by rw [jC bF l1 k hkn]; omega)])) (j := k * 3 + 1) (by rw [List.length_set, jC bF l1 k hkn]; omega)
     rw [List.length_set, List.length_set, jC bF l1 k hkn, ← e] at h
     exact h
    ·go_wp2
     go_region
     go_wp2
     have e : kP bF l1 (k + 1) = ((kP bF l1 k).set k ⟨x.f0, x.f1.extract 0 x.f2.toNat, x.f2⟩) := by
      rw [← GX (ks := l1) HX.out, List.getElem?_eq_none (by omega)]
      rfl
     refine ⟨⟨k + 1, by congr 1, by omega, ⟨fK (bK HB.out HG.out)⟩, ⟨bQ (dI (p := ⟨g, k * 3 + 1, none⟩) BKR.out (fun e => NGR.out e.symm) _)⟩, ⟨bQ (dI (p := ⟨g, k * 3 + 1, none⟩) BKO.out (fun e => NGO.out e.symm) _)⟩, ⟨?_⟩⟩, by simp [intOf]; omega⟩
     have ho := HO.out
     rw [← jC bF l1 k hkn] at ho
     have h := zL (u := .string (x.f1.extract 0 x.f2.toNat)) ho (l' := (kP bF l1 k).set k ⟨x.f0, x.f1.extract 0 x.f2.toNat, x.f2⟩) (by rw [List.length_set]) (jZ _ k x _ HXK.out) (j := k * 3 + 1) (by rw [jC bF l1 k hkn]; omega)
     rw [List.length_set, jC bF l1 k hkn, ← e] at h
     exact h
   ·obtain rfl : k = bF.length := by omega
    have o0 : wr.cell? ⟨go, 0, none⟩ = some (.slice A bF.length c) := (aH BKO.out 0).trans rfl
    have o1 : wr.cell? ⟨go, 1, none⟩ = some (.bool false) := (aH BKO.out 1).trans rfl
    have o2 : wr.cell? ⟨go, 2, none⟩ = some (.int .i64 (-1)) := (aH BKO.out 2).trans rfl
    have o3 : wr.cell? ⟨go, 3, none⟩ = some (.int .i64 (-1)) := (aH BKO.out 3).trans rfl
    have b0 : wr.cell? ⟨gr, 0, none⟩ = some (.slice none 0 0) := (aH BKR.out 0).trans rfl
    have b1 : wr.cell? ⟨gr, 1, none⟩ = some (.bool false) := (aH BKR.out 1).trans rfl
    have b2 : wr.cell? ⟨gr, 2, none⟩ = some (.int .i64 0) := (aH BKR.out 2).trans rfl
    have b3 : wr.cell? ⟨gr, 3, none⟩ = some (.int .i64 0) := (aH BKR.out 3).trans rfl
    have bf0 := aG BKR.out 0
    have bf1 := aG BKR.out 1
    have bf2 := aG BKR.out 2
    have bf3 := aG BKR.out 3
    go_wp2_with fail
    refine bodyPost_ret (fM rfl _ _ gr 27 #[.slice A bF.length c, .bool false, .int .i64 (-1), .int .i64 (-1)] (0, 0) _ rfl (vI BKR.out _ _ _ _) Tryz.underlying27 rfl (by kernel_rfl)) rfl ?_
    have e := HE2.out
    simp only [Prod.mk.injEq] at e
    obtain ⟨rfl, rfl, rfl, rfl, rfl⟩ := e
    have e : kP bF l1 bF.length = fA bF l1 := by
     rw [kP, List.take_of_length_le (by rw [jB]; omega), List.drop_length, List.append_nil]
    rw [← e]
    exact ⟨_, rfl, R4 HO.out BKR.out (by decide) _ _ _ _, kN HB.out GR.out _ _ _ _⟩
 ·refine ((dO.calls dQ dR bF cO cZ dA 6 w3 (Kd.fG HR.out HB.out) HC.out (by rw [dO.f, if_neg hok])).mono ?_)
  have HE2 : aC ((([] : List S67), false, (0 : Int), (0 : Int), (6 : Int)) = (r1, r2, r3, r4, r5)) := ⟨by have := HE.out; rwa [if_neg hok] at this⟩
  clear hok HE
  rintro e w4 ⟨rfl, hb⟩
  have n0_ := aC.mk (bD HB.out hb); have n2_ := aC.mk (bJ BKR.out hb)
  clear HB BKD BKR d0 d1 d2 d3 hb; have HB := n0_; have BKR := n2_; clear n0_ n2_
  have b0 : w4.cell? ⟨gr, 0, none⟩ = some (.slice none 0 0) := (aH BKR.out 0).trans rfl
  have b1 : w4.cell? ⟨gr, 1, none⟩ = some (.bool false) := (aH BKR.out 1).trans rfl
  have b2 : w4.cell? ⟨gr, 2, none⟩ = some (.int .i64 0) := (aH BKR.out 2).trans rfl
  have b3 : w4.cell? ⟨gr, 3, none⟩ = some (.int .i64 0) := (aH BKR.out 3).trans rfl
  have bf0 := aG BKR.out 0
  have bf1 := aG BKR.out 1
  have bf2 := aG BKR.out 2
  have bf3 := aG BKR.out 3
  go_wp2_with fail
  refine bodyPost_ret (fM rfl _ _ gr 27 #[.slice none 0 0, .bool false, .int .i64 0, .int .i64 0] (0, 0) _ rfl (vI BKR.out _ _ _ _) Tryz.underlying27 rfl (by kernel_rfl)) rfl ?_
  have e := HE2.out
  simp only [Prod.mk.injEq] at e
  obtain ⟨rfl, rfl, rfl, rfl, rfl⟩ := e
  exact ⟨_, rfl, Kd.xI _ _ _ _ _, kN HB.out GR.out _ _ _ _⟩
end Go.Proofs.U
