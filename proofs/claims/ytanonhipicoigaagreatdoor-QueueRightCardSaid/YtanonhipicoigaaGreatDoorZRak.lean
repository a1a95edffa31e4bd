import Derived.Test.YtanonhipicoigaaGreatDoorZRaj
import Derived.RegionTactic
import Derived.BigRegion
import Derived.Deep.RegionLaw
import Derived.Lib.SliceRun
import Derived.Test.YtanonhipicoigaaGreatDoorZRai
import Derived.Test.YtanonhipicoigaaGreatDoorZRag
set_option linter.unusedVariables false
set_option linter.unusedSimpArgs false
set_option maxRecDepth 100000
namespace Go.Proofs.U
open Go.RowKit Go.Proofs.aA.aK Go.Proofs.aA.aW Go.Proofs.aA.aX
theorem qaK : ∀ (last : List UInt8) (l : List S67) (i : Nat) (x : S67), lQ last l = true → l[i]? = some x → x.f0.size ≤ 4096 ∧ x.f1.size ≤ 262144 ∧ 0 ≤ x.f2 ∧ x.f2 ≤ (x.f1.size : Int)
 | _, [], i, x, _, h => by simp at h
 | last, y :: l, 0, x, hk, h => by
  obtain rfl : y = x := by simpa using h
  simp only [lQ, AA, Bool.and_eq_true, decide_eq_true_eq] at hk
  exact ⟨hk.1.1.1.1.2, hk.1.1.1.2, hk.1.1.2, hk.1.2⟩
 | last, y :: l, i + 1, x, hk, h => by
  simp only [lQ, Bool.and_eq_true] at hk
  exact qaK y.f0.toList l i x hk.2 (by simpa using h)
theorem rM {l : List S67} (h : bI l = true) {i : Nat} {x : S67} (hx : l[i]? = some x) : x.f0.size ≤ 4096 ∧ x.f1.size ≤ 262144 ∧ 0 ≤ x.f2 ∧ x.f2 ≤ (x.f1.size : Int) := by
 simp only [bI, Bool.and_eq_true] at h
 exact qaK [] l i x h.1 hx
theorem gZ {l : List S67} {i : Nat} {x : S67} (hx : l[i]? = some x) : dV l (i : Int) = x := by
 simp [dV, List.getD, hx]
def rfW (data : ByteArray) (l : List S67) (i : Int) (b : Bool) : Int := if b = true then (if 262144 - ((dV l i).f1.size : Int) < (data.size : Int) then 8 else 0) else 7
theorem qaL : Enters 175 := fun args w => jO Tryz.func175 (by kernel_rfl) (by kernel_rfl) args w
theorem qaM : Enters 176 := fun args w => jO Tryz.func176 (by kernel_rfl) (by kernel_rfl) args w
set_option maxHeartbeats 4000000 in
theorem MZ (w : World) (gp b1 b2 g : Nat) (cur : Array Value) (data : ByteArray) (l : List S67) (c : Nat) (i : Nat) (x : S67) (hx : l[i]? = some x) (hsz : x.f1.size ≤ 262144) (hn : l.length ≤ 64) (s3 : w.cell? ⟨b2, 0, none⟩ = some (.string data)) (s1 : w.cell? ⟨b1, 0, none⟩ = some (.pointer (some ⟨gp, 0, none⟩)))
  (s2 : w.cell? ⟨gp, 0, none⟩ = some (.slice (some ⟨g, 0, none⟩) l.length c)) (hh : w.heap[g]? = some (.cells cur 67 (0, 0))) (h6 : cur.toList.take (l.length * 3) = cellsOf l) :
  Calls Tryz.prog 175 #[.int .i64 (i : Int), .bool true, .pointer (some ⟨b2, 0, none⟩), .pointer (some ⟨b1, 0, none⟩)] w fun e w' => e = .returned (.int .i64 (rfW data l i true)) ∧ Below w.heap.size w w' := by
 have hlt : i < l.length := (List.getElem?_eq_some_iff.1 hx).1
 obtain ⟨e0, e1, e2⟩ := jD l i x hx
 have s4 : w.cell? ⟨g, i * 3 + 1, none⟩ = some (.string x.f1) := kG hh h6 e1
 have hi0 : (0 : Int) ≤ (i : Int) := by omega
 have hi1 : (i : Int) < (l.length : Int) := by omega
 have hz0 : (x.f1.size : Int) ≤ 262144 := by omega
 obtain ⟨R, hR⟩ : ∃ R, R = rfW data l i true := ⟨_, rfl⟩
 rw [← hR]
 have HR : aC (R = if 262144 - (x.f1.size : Int) < (data.size : Int) then 8 else 0) := ⟨by rw [hR, rfW, if_pos rfl, gZ hx]⟩
 clear hR hx hh h6 e0 e1 e2 hsz
 go_enter Tryz.func175, Tryz.ntmps175
 go_wp2_with (go_at_call 160; refine (oO _ _ _).mono ?_; rintro e w' ⟨rfl, rfl⟩)
 refine fO (n := 14) (S := fun w' => w'.cell? ⟨b2, 0, none⟩ = some (.string data) ∧ w'.cell? ⟨b1, 0, none⟩ = some (.pointer (some ⟨gp, 0, none⟩)) ∧ w'.cell? ⟨gp, 0, none⟩ = some (.slice (some ⟨g, 0, none⟩) l.length c) ∧ w'.cell? ⟨g, i * 3 + 1, none⟩ = some (.string x.f1)) (ds := []) #[false, false, false, false, false, false, false, false, false, false, false, false, false, false] (by kernel_rfl) rfl rfl ⟨s3, s1, s2, s4⟩ (fun hHeld => ?_)
 refine puS (i := 7) (N := some 21) (v := ?_) (a' := ?_) rfl rfl (by kernel_rfl) (fun _ _ _ h => h) (Or.inl ⟨by rfl, ?_⟩) ?_ ?_
 rotate_left
 ·intro w'
  go_simp
  with_reducible rfl
 rotate_left
 ·simp only [Act.put, zA, zZ, zS, aI, aJ]
  rfl
 refine tkS (i := 0) (N := some 14) (v := ?_) (a' := ?_) rfl rfl (by kernel_rfl) (fun _ _ _ h => h) (Or.inl ⟨by rfl, ?_⟩) hHeld ?_ ?_
 rotate_left
 ·rintro w' ⟨s0, s1, s2, s3⟩
  go_simp
  with_reducible rfl
 rotate_left
 ·simp only [Act.put, zA, zZ, zS, aI, aJ]
  rfl
 refine puS (i := 1) (N := some 15) (v := ?_) (a' := ?_) rfl rfl (by kernel_rfl) (fun _ _ _ h => h) (Or.inl ⟨by rfl, ?_⟩) ?_ ?_
 rotate_left
 ·intro w'
  go_simp
  with_reducible rfl
 rotate_left
 ·simp only [Act.put, zA, zZ, zS, aI, aJ]
  rfl
 refine tkS (i := 2) (N := some 16) (v := ?_) (a' := ?_) rfl rfl (by kernel_rfl) (fun _ _ _ h => h) (Or.inl ⟨by rfl, ?_⟩) hHeld ?_ ?_
 rotate_left
 ·rintro w' ⟨s0, s1, s2, s3⟩
  go_simp
  with_reducible rfl
 rotate_left
 ·simp only [Act.put, zA, zZ, zS, aI, aJ]
  rfl
 refine puS (i := 3) (N := some 17) (v := ?_) (a' := ?_) rfl rfl (by kernel_rfl) (fun _ _ _ h => h) (Or.inl ⟨by rfl, ?_⟩) ?_ ?_
 rotate_left
 ·intro w'
  go_simp
  with_reducible rfl
 rotate_left
 ·simp only [Act.put, zA, zZ, zS, aI, aJ]
  rfl
 refine puS (i := 4) (N := some 18) (v := ?_) (a' := ?_) rfl rfl (by kernel_rfl) (fun _ _ _ h => h) (Or.inl ⟨by rfl, ?_⟩) ?_ ?_
 rotate_left
 ·intro w'
  go_simp
  with_reducible rfl
 rotate_left
 ·simp only [Act.put, zA, zZ, zS, aI, aJ]
  rfl
 refine puS (i := 5) (N := some 19) (v := ?_) (a' := ?_) rfl rfl (by kernel_rfl) (fun _ _ _ h => h) (Or.inl ⟨by rfl, ?_⟩) ?_ ?_
 rotate_left
 ·intro w'
  go_simp
  with_reducible rfl
 rotate_left
 ·simp only [Act.put, zA, zZ, zS, aI, aJ]
  rfl
 refine tkS (i := 6) (N := some 20) (v := ?_) (a' := ?_) rfl rfl (by kernel_rfl) (fun _ _ _ h => h) (Or.inl ⟨by rfl, ?_⟩) hHeld ?_ ?_
 rotate_left
 ·rintro w' ⟨s0, s1, s2, s3⟩
  go_simp
  with_reducible rfl
 rotate_left
 ·simp only [Act.put, zA, zZ, zS, aI, aJ]
  rfl
 refine puS (i := 8) (N := some 22) (v := ?_) (a' := ?_) rfl rfl (by kernel_rfl) (fun _ _ _ h => h) (Or.inl ⟨by rfl, ?_⟩) ?_ ?_
 rotate_left
 ·intro w'
  go_simp
  with_reducible rfl
 rotate_left
 ·simp only [Act.put, zA, zZ, zS, aI, aJ]
  rfl
 refine puS (i := 9) (N := some 23) (v := ?_) (a' := ?_) rfl rfl (by kernel_rfl) (fun _ _ _ h => h) (Or.inl ⟨by rfl, ?_⟩) ?_ ?_
 rotate_left
 ·intro w'
  go_simp
  with_reducible rfl
 rotate_left
 ·simp only [Act.put, zA, zZ, zS, aI, aJ]
  rfl
 refine tkS (i := 10) (N := some 24) (v := ?_) (a' := ?_) rfl rfl (by kernel_rfl) (fun _ _ _ h => h) (Or.inl ⟨by rfl, ?_⟩) hHeld ?_ ?_
 rotate_left
 ·rintro w' ⟨s0, s1, s2, s3⟩
  go_simp
  with_reducible rfl
 rotate_left
 ·simp only [Act.put, zA, zZ, zS, aI, aJ]
  rfl
 refine puS (i := 11) (N := some 25) (v := ?_) (a' := ?_) rfl rfl (by kernel_rfl) (fun _ _ _ h => h) (Or.inl ⟨by rfl, ?_⟩) ?_ ?_
 rotate_left
 ·intro w'
  go_simp
  with_reducible rfl
 rotate_left
 ·simp only [Act.put, zA, zZ, zS, aI, aJ]
  rfl
 refine puS (i := 12) (N := some 26) (v := ?_) (a' := ?_) rfl rfl (by kernel_rfl) (fun _ _ _ h => h) (Or.inl ⟨by rfl, ?_⟩) ?_ ?_
 rotate_left
 ·intro w'
  go_simp
  with_reducible rfl
 rotate_left
 ·simp only [Act.put, zA, zZ, zS, aI, aJ]
  rfl
 refine puS (i := 13) (N := some 27) (v := ?_) (a' := ?_) rfl rfl (by kernel_rfl) (fun _ _ _ h => h) (Or.inl ⟨by rfl, ?_⟩) ?_ ?_
 rotate_left
 ·intro w'
  go_simp
  with_reducible rfl
 rotate_left
 ·simp only [Act.put, zA, zZ, zS, aI, aJ]
  rfl
 refine iT (by kernel_rfl) ?_
 have e : wrap64 (262144 - (x.f1.size : Int)) = 262144 - (x.f1.size : Int) := by unfold wrap64; omega
 rw [e]
 clear e
 by_cases h : 262144 - (x.f1.size : Int) < (data.size : Int)
 ·have HE : aC (R = 8) := ⟨by rw [HR.out, if_pos h]⟩
  have hd : decide (262144 - (x.f1.size : Int) < (data.size : Int)) = true := by simpa using h
  rw [hd]
  clear h hd
  go_wp2
  go_ret
  exact ⟨by rw [HE.out]; rfl, gI (Below.refl _ _)⟩
 ·have HE : aC (R = 0) := ⟨by rw [HR.out, if_neg h]⟩
  have hd : decide (262144 - (x.f1.size : Int) < (data.size : Int)) = false := by simpa using h
  rw [hd]
  clear h hd
  go_wp2
  go_ret
  exact ⟨by rw [HE.out]; rfl, gI (Below.refl _ _)⟩
theorem KO (w : World) (v2 v1 : Value) (data : ByteArray) (l : List S67) (i : Int) :
  Calls Tryz.prog 175 #[.int .i64 i, .bool false, v2, v1] w fun e w' => e = .returned (.int .i64 (rfW data l i false)) ∧ w = w' := by
 go_enter Tryz.func175, Tryz.ntmps175
 go_wp2_with (go_at_call 160; refine (oO _ _ _).mono ?_; rintro e w' ⟨rfl, rfl⟩)
 go_ret
 exact ⟨rfl, rfl⟩
set_option maxHeartbeats 4000000 in
theorem qaN (gp b1 b2 : Nat) (w : World) (base : Nat) (l : List S67) (data : ByteArray) (A : Option Addr) (c : Nat) (dn : Bool) (fu fa : Int) (i : Nat) (x : S67) (hx : l[i]? = some x) (hsum : x.f1.size + data.size ≤ 262144) (hb1 : w.heap[b1]? = some (.cells #[.pointer (some ⟨gp, 0, none⟩)] 176 (0, 0)))
  (hb2 : w.heap[b2]? = some (.cells #[.string data] 9 (0, 0))) (hp : P6 w base gp (.slice A l.length c) l dn fu fa) :
  Calls Tryz.prog 176 #[.int .i64 (i : Int), .pointer (some ⟨b1, 0, none⟩), .pointer (some ⟨b2, 0, none⟩)] w (Done w base gp dn fu fa (l.set i ⟨x.f0, x.f1 ++ data, x.f2⟩)) := by
 obtain ⟨hp, ho⟩ := hp
 have hlt : i < l.length := (List.getElem?_eq_some_iff.1 hx).1
 obtain ⟨g, cur, rfl, _, hg, hh, h3, h4, h5, h6⟩ := lT ho (by omega)
 obtain ⟨e0, e1, e2⟩ := jD l i x hx
 have s1 : w.cell? ⟨b1, 0, none⟩ = some (.pointer (some ⟨gp, 0, none⟩)) := (aH hb1 0).trans rfl
 have s2 : w.cell? ⟨gp, 0, none⟩ = some (.slice (some ⟨g, 0, none⟩) l.length c) := (aH hp 0).trans rfl
 have s3 : w.cell? ⟨b2, 0, none⟩ = some (.string data) := (aH hb2 0).trans rfl
 have s4 : w.cell? ⟨g, i * 3 + 1, none⟩ = some (.string x.f1) := kG hh h6 e1
 have s5 := aG hh (i * 3 + 1)
 have ngp : g ≠ gp := gW hh hp (by decide)
 have HX := aC.mk hx
 have HO := aC.mk ho
 have HP := aC.mk hp
 have HH := aC.mk hh
 have NGP := aC.mk ngp
 have HG := aC.mk hg
 have hi0 : (0 : Int) ≤ (i : Int) := by omega
 have hi1 : (i : Int) < (l.length : Int) := by omega
 have hs9 : (x.f1.size : Int) + (data.size : Int) ≤ 9223372036854775807 := by omega
 have hs8 : ¬ 9223372036854775807 < x.f1.size + data.size := by omega
 clear hx ho hp hh ngp h3 h4 h5 h6 e0 e1 e2 hb1 hg hb2
 go_enter Tryz.func176, Tryz.ntmps176
 go_wp2
 refine fO (n := 14) (S := fun w' => w'.cell? ⟨b1, 0, none⟩ = some (.pointer (some ⟨gp, 0, none⟩)) ∧ w'.cell? ⟨b2, 0, none⟩ = some (.string data) ∧ w'.cell? ⟨gp, 0, none⟩ = some (.slice (some ⟨g, 0, none⟩) l.length c) ∧ w'.cell? ⟨g, i * 3 + 1, none⟩ = some (.string x.f1)) (ds := [13]) #[false, false, false, false, false, false, false, false, false, false, false, false, false, false] (by kernel_rfl) rfl rfl ⟨s1, s3, s2, s4⟩ (fun hHeld => ?_)
 refine puS (i := 5) (N := some 9) (v := ?_) (a' := ?_) rfl rfl (by kernel_rfl) (fun _ _ _ h => h) (Or.inl ⟨by rfl, ?_⟩) ?_ ?_
 rotate_left
 ·intro w'
  go_simp
  with_reducible rfl
 rotate_left
 ·simp only [Act.put, zA, zZ, zS, aI, aJ]
  rfl
 refine tkS (i := 0) (N := some 4) (v := ?_) (a' := ?_) rfl rfl (by kernel_rfl) (fun _ _ _ h => h) (Or.inl ⟨by rfl, ?_⟩) hHeld ?_ ?_
 rotate_left
 ·rintro w' ⟨s0, s1, s2, s3⟩
  go_simp
  with_reducible rfl
 rotate_left
 ·simp only [Act.put, zA, zZ, zS, aI, aJ]
  rfl
 refine puS (i := 1) (N := some 5) (v := ?_) (a' := ?_) rfl rfl (by kernel_rfl) (fun _ _ _ h => h) (Or.inl ⟨by rfl, ?_⟩) ?_ ?_
 rotate_left
 ·intro w'
  go_simp
  with_reducible rfl
 rotate_left
 ·simp only [Act.put, zA, zZ, zS, aI, aJ]
  rfl
 refine puS (i := 2) (N := some 6) (v := ?_) (a' := ?_) rfl rfl (by kernel_rfl) (fun _ _ _ h => h) (Or.inl ⟨by rfl, ?_⟩) ?_ ?_
 rotate_left
 ·intro w'
  go_simp
  with_reducible rfl
 rotate_left
 ·simp only [Act.put, zA, zZ, zS, aI, aJ]
  rfl
 refine puS (i := 3) (N := some 7) (v := ?_) (a' := ?_) rfl rfl (by kernel_rfl) (fun _ _ _ h => h) (Or.inl ⟨by rfl, ?_⟩) ?_ ?_
 rotate_left
 ·intro w'
  go_simp
  with_reducible rfl
 rotate_left
 ·simp only [Act.put, zA, zZ, zS, aI, aJ]
  rfl
 refine tkS (i := 4) (N := some 8) (v := ?_) (a' := ?_) rfl rfl (by kernel_rfl) (fun _ _ _ h => h) (Or.inl ⟨by rfl, ?_⟩) hHeld ?_ ?_
 rotate_left
 ·rintro w' ⟨s0, s1, s2, s3⟩
  go_simp
  with_reducible rfl
 rotate_left
 ·simp only [Act.put, zA, zZ, zS, aI, aJ]
  rfl
 refine puS (i := 6) (N := some 10) (v := ?_) (a' := ?_) rfl rfl (by kernel_rfl) (fun _ _ _ h => h) (Or.inl ⟨by rfl, ?_⟩) ?_ ?_
 rotate_left
 ·intro w'
  go_simp
  with_reducible rfl
 rotate_left
 ·simp only [Act.put, zA, zZ, zS, aI, aJ]
  rfl
 refine puS (i := 7) (N := some 11) (v := ?_) (a' := ?_) rfl rfl (by kernel_rfl) (fun _ _ _ h => h) (Or.inl ⟨by rfl, ?_⟩) ?_ ?_
 rotate_left
 ·intro w'
  go_simp
  with_reducible rfl
 rotate_left
 ·simp only [Act.put, zA, zZ, zS, aI, aJ]
  rfl
 refine tkS (i := 8) (N := some 12) (v := ?_) (a' := ?_) rfl rfl (by kernel_rfl) (fun _ _ _ h => h) (Or.inl ⟨by rfl, ?_⟩) hHeld ?_ ?_
 rotate_left
 ·rintro w' ⟨s0, s1, s2, s3⟩
  go_simp
  with_reducible rfl
 rotate_left
 ·simp only [Act.put, zA, zZ, zS, aI, aJ]
  rfl
 refine tkS (i := 9) (N := some 13) (v := ?_) (a' := ?_) rfl rfl (by kernel_rfl) (fun _ _ _ h => h) (Or.inl ⟨by rfl, ?_⟩) hHeld ?_ ?_
 rotate_left
 ·rintro w' ⟨s0, s1, s2, s3⟩
  go_simp
  with_reducible rfl
 rotate_left
 ·simp only [Act.put, zA, zZ, zS, aI, aJ]
  rfl
 refine puS (i := 10) (N := some 14) (v := ?_) (a' := ?_) rfl rfl (by kernel_rfl) (fun _ _ _ h => h) (Or.inl ⟨by rfl, ?_⟩) ?_ ?_
 rotate_left
 ·intro w'
  go_simp
  with_reducible rfl
 rotate_left
 ·simp only [Act.put, zA, zZ, zS, aI, aJ]
  rfl
 refine puS (i := 11) (N := some 15) (v := ?_) (a' := ?_) rfl rfl (by kernel_rfl) (fun _ _ _ h => h) (Or.inl ⟨by rfl, ?_⟩) ?_ ?_
 rotate_left
 ·intro w'
  go_simp
  with_reducible rfl
 rotate_left
 ·simp only [Act.put, zA, zZ, zS, aI, aJ]
  rfl
 refine puS (i := 12) (N := some 16) (v := ?_) (a' := ?_) rfl rfl (by kernel_rfl) (fun _ _ _ h => h) (Or.inl ⟨by rfl, ?_⟩) ?_ ?_
 rotate_left
 ·intro w'
  go_simp
  with_reducible rfl
 rotate_left
 ·simp only [Act.put, zA, zZ, zS, aI, aJ]
  rfl
 refine laS (i := 13) (N := none) rfl rfl (by kernel_rfl) (by decide) (fun K hK => ?_)
 refine wG (w1 := ?_) (by rfl) rfl ?_ ?_
 rotate_left
 ·go_simp
  rfl
 refine hK.out _ _ ?_
 clear hK K
 refine iT (by kernel_rfl) ?_
 go_end0
 refine ⟨rfl, .slice (some ⟨g, 0, none⟩) l.length c, bQ (dO (p := ⟨g, i * 3 + 1, none⟩) HP.out (fun e => NGP.out e.symm) _), ?_, gI ((Below.refl base w).setCell HG.out _), fun k cs h => bQ (dO (p := ⟨g, i * 3 + 1, none⟩) h (gW h HH.out (by decide)) _)⟩
 have h := G9 (u := .string (x.f1 ++ data)) HO.out (l' := l.set i ⟨x.f0, x.f1 ++ data, x.f2⟩) (by rw [List.length_set]) (lS l i x _ HX.out) (j := i * 3 + 1) (by omega)
 rw [List.length_set] at h
 exact h
set_option maxHeartbeats 4000000 in
theorem P8 (W w1 : World) (gp : Nat) (v : Value) (l : List S67) (dn : Bool) (fu fa : Int) (data : ByteArray) (sd : Int → List S67) (hsd : ∀ (i : Nat) (x : S67), l[i]? = some x → x.f1.size + data.size ≤ 262144 → sd (i : Int) = l.set i ⟨x.f0, x.f1 ++ data, x.f2⟩) (hb : Below W.heap.size W w1) (hgp : W.heap.size ≤ gp) (hp : w1.heap[gp]? = some (.cells #[v, .bool dn, .int .i64 fu, .int .i64 fa] 211 (0, 0)))
  (ho : Kd.R k67 67 w1 W.heap.size (fun _ => True) v l) (hok : bI l = true) :
  Calls Tryz.prog 129 #[.pointer (some ⟨gp, 0, none⟩), .string data] w1 fun e w2 => ∃ rv dv : Value, e = .returned (.agg #[rv, dv, .bool true]) ∧ Below w1.heap.size w1 w2 ∧ qbS w2 rv l.length (rfW data l) ∧ DoV W.heap.size gp w2 dv v l (rfW data l) sd := by
 obtain ⟨A, c, rfl⟩ := Kd.dZ ho
 have hlt : gp < w1.heap.size := gJ hp
 have hle : l.length ≤ 64 := by
  simp only [bI, Bool.and_eq_true, decide_eq_true_eq] at hok
  exact hok.2
 go_enter Tryz.func129, Tryz.ntmps129
 go_wp2
 refine bodyPost_ret (results_cell_row rfl _ _ (w1.heap.size + 2) 179 #[.func (.func 175) #[] #[.pointer (some ⟨w1.heap.size + 1, 0, none⟩), .pointer (some ⟨w1.heap.size, 0, none⟩)], .func (.func 176) #[] #[.pointer (some ⟨w1.heap.size, 0, none⟩), .pointer (some ⟨w1.heap.size + 1, 0, none⟩)], .bool true] (0, 0) _ rfl (qaF w1 _ _ _) Tryz.underlying179 rfl (by kernel_rfl)) rfl ?_
 refine ⟨_, _, rfl, aQ (aQ (aQ (Below.refl _ _) _) _) _, ⟨175, _, rfl, qaL, fun w3 i b hb3 hil hib => ?_⟩, 176, _, rfl, qaM, fun w3 i b dn fu fa hk hil hib hrf hp3 ho3 => ?_⟩
 ·refine fB (args' := #[.int .i64 (i : Int), .bool b, .pointer (some ⟨w1.heap.size + 1, 0, none⟩), .pointer (some ⟨w1.heap.size, 0, none⟩)]) (by simp) ?_
  have IX := hb3 _ _ _ (by decide) (by decide) (by simp) (KZ w1 _ _ _)
  have IY := hb3 _ _ _ (by decide) (by decide) (by simp) (LC w1 _ _ _)
  have hpp := hb3 _ _ _ (by decide) (by decide) (by simp) (bC (bC (bC hp _) _) _)
  cases b with
  | false =>
   refine (KO w3 _ _ data l i).mono ?_
   rintro e w4 ⟨rfl, rfl⟩
   exact ⟨rfl, Below.refl _ _⟩
  | true =>
   obtain ⟨x, hx⟩ := uH (hib rfl)
   obtain ⟨g, cur, rfl, _, hg, hh, h3, h4, h5, h6⟩ := lT ho (by have := hib rfl; omega)
   exact MZ w3 gp w1.heap.size (w1.heap.size + 1) g cur data l c i x hx (rM hok hx).2.1 hle ((aH IY 0).trans rfl) ((aH IX 0).trans rfl) ((aH hpp 0).trans rfl) (hb3 _ _ _ (by decide) (by decide) (by simp) (bC (bC (bC hh _) _) _)) h6
 ·refine fB (args' := #[.int .i64 (i : Int), .pointer (some ⟨w1.heap.size, 0, none⟩), .pointer (some ⟨w1.heap.size + 1, 0, none⟩)]) (by simp) ?_
  have IX := hk _ _ _ (by decide) (by decide) (fun h => by injection h with h; omega) (KZ w1 _ _ _)
  have IY := hk _ _ _ (by decide) (by decide) (fun h => by injection h with h; omega) (LC w1 _ _ _)
  have hsz : W.heap.size ≤ w3.heap.size := by have := gJ hp3; omega
  have hbt : b = true := by
   cases b
   ·simp [rfW] at hrf
   ·rfl
  subst hbt
  obtain ⟨x, hx⟩ := uH (hib rfl)
  have hsum : x.f1.size + data.size ≤ 262144 := by
   rw [rfW, if_pos rfl, gZ hx] at hrf
   split at hrf
   ·cases hrf
   ·have := (rM hok hx).2.1
    omega
  refine (qaN gp w1.heap.size (w1.heap.size + 1) w3 W.heap.size l data A c dn fu fa i x hx hsum IX IY ⟨hp3, ho3⟩).mono fun e w4 h => ?_
  rw [hsd i x hx hsum]
  exact h
set_option maxHeartbeats 4000000 in
theorem qaO (W : World) (nb : Nat) (l : List S67) (dn : Bool) (fu fa : Int) (data : ByteArray) (sd : Int → List S67) (hsd : ∀ (i : Nat) (x : S67), l[i]? = some x → x.f1.size + data.size ≤ 262144 → sd (i : Int) = l.set i ⟨x.f0, x.f1 ++ data, x.f2⟩) (hnb : W.heap[nb]? = some (.cells #[.string data] 9 (0, 0))) :
  OfV W 128 #[.pointer (some ⟨nb, 0, none⟩)] l dn fu fa true (rfW data l) sd := by
 intro w1 gp v hb hgp hp ho hok
 have hc := (aH (bG hnb hb) 0).trans rfl
 refine fB (args' := #[.pointer (some ⟨gp, 0, none⟩), .pointer (some ⟨nb, 0, none⟩)]) (by simp) ?_
 have HB := aC.mk hb
 have HGP := aC.mk hgp
 have HP := aC.mk hp
 have HO := aC.mk ho
 have HOK := aC.mk hok
 clear hb hgp hp ho hok hnb
 go_enter Tryz.func128, Tryz.ntmps128
 go_wp2_with (first
 |((with_reducible refine aU (N := 3) rfl ?_);
   refine dL ?hg (N := 3) ?hd (cs := #[.nilFunc, .nilFunc, .bool false]) (t := 179) ?hr ?_;
   (case hd => rfl); (case hg => rfl); (case hr => first | (go_simp; done) | (go_simp; rfl));
   intro g3 hg w2 hbox hb2;
   have N3 := aC.mk (show w1.heap.size ≤ g3 by rw [hg]; exact Nat.le_refl _);
   have hc2 := (hb2.cell (World.block_lt_of_cell? w1 _ hc)).trans hc;
   have HB2 := aC.mk hb2; have BK3 := aC.mk hbox; clear hg hbox hb2 hc)
 |fail)
 refine ((P8 W _ gp v l dn fu fa data sd hsd (bF HB.out HB2.out) HGP.out (bG HP.out HB2.out) (Kd.qB HO.out HB2.out) HOK.out).mono ?_)
 rintro e w4 ⟨rv, dv, rfl, hb4, ⟨Kr, cr, rfl, hKr, hrf⟩, ⟨Kd_, cd, rfl, hKd, hdo⟩⟩
 have HKr := aC.mk hKr
 have Hrf := aC.mk hrf
 have HKd := aC.mk hKd
 have Hdo := aC.mk hdo
 have HB4 := aC.mk hb4
 have bk := bG BK3.out hb4
 have c0 := (aH bk 0).trans rfl
 have c1 := (aH bk 1).trans rfl
 have c2 := (aH bk 2).trans rfl
 have f0 := aG bk 0
 have f1 := aG bk 1
 have f2 := aG bk 2
 have BK4 := aC.mk bk
 clear hKr hrf hKd hdo hb4 bk
 go_wp2
 refine bodyPost_ret (results_cell_row rfl _ _ g3 179 #[.func (.func Kr) #[] cr, .func (.func Kd_) #[] cd, .bool true] (0, 0) _ rfl (qbT BK4.out _ _ _) Tryz.underlying179 rfl (by kernel_rfl)) rfl ?_
 have hw4 : Below w1.heap.size w1 w4 := bF HB2.out HB4.out
 have hgg : ∀ (k : Nat), k ≠ g3 → (((w4.setCell ⟨g3, 0, none⟩ (.func (.func Kr) #[] cr)).setCell ⟨g3, 1, none⟩ (.func (.func Kd_) #[] cd)).setCell ⟨g3, 2, none⟩ (.bool true)).heap[k]? = w4.heap[k]? := fun k hk =>
  ((Below.heap_setCell _ ⟨g3, 2, none⟩ _ k hk).trans (Below.heap_setCell _ ⟨g3, 1, none⟩ _ k hk)).trans (Below.heap_setCell _ ⟨g3, 0, none⟩ _ k hk)
 refine ⟨_, _, rfl, below3 hw4 N3.out _ _ _, ⟨Kr, cr, rfl, HKr.out, ?_⟩, Kd_, cd, rfl, HKd.out, ?_⟩
 ·intro w5 i b hk hil hib
  refine Hrf.out w5 i b (fun k cs t h1 h2 h3 h4 => hk k cs t h1 h2 h3 ?_) hil hib
  rw [hgg k (fun e => by subst e; exact absurd h4 (Y0 BK4.out h1))]
  exact h4
 ·intro w5 i b dn fu fa hk
  refine Hdo.out w5 i b dn fu fa (fun k cs t h1 h2 h3 h4 => hk k cs t h1 h2 h3 ?_)
  rw [hgg k (fun e => by subst e; exact absurd h4 (Y0 BK4.out h1))]
  exact h4
def rfT (size : Int) (l : List S67) (i : Int) (b : Bool) : Int := if b = true then (if size < 0 ∨ ((dV l i).f1.size : Int) < size then 2 else 0) else 7
theorem qaP : Enters 163 := fun args w => jO Tryz.func163 (by kernel_rfl) (by kernel_rfl) args w
theorem qaQ : Enters 164 := fun args w => jO Tryz.func164 (by kernel_rfl) (by kernel_rfl) args w
theorem P9 (w : World) (v2 v1 : Value) (size : Int) (l : List S67) (i : Int) :
  Calls Tryz.prog 163 #[.int .i64 i, .bool false, v2, v1] w fun e w' => e = .returned (.int .i64 (rfT size l i false)) ∧ w = w' := by
 go_enter Tryz.func163, Tryz.ntmps163
 go_wp2_with (go_at_call 160; refine (oO _ _ _).mono ?_; rintro e w' ⟨rfl, rfl⟩)
 go_ret
 exact ⟨rfl, rfl⟩
set_option maxHeartbeats 4000000 in
theorem S9 (w : World) (gp b1 b2 g : Nat) (cur : Array Value) (size : Int) (l : List S67) (c : Nat) (i : Nat) (x : S67) (hx : l[i]? = some x) (hn : l.length ≤ 64) (s3 : w.cell? ⟨b2, 0, none⟩ = some (.int .i64 size)) (s1 : w.cell? ⟨b1, 0, none⟩ = some (.pointer (some ⟨gp, 0, none⟩)))
  (s2 : w.cell? ⟨gp, 0, none⟩ = some (.slice (some ⟨g, 0, none⟩) l.length c)) (hh : w.heap[g]? = some (.cells cur 67 (0, 0))) (h6 : cur.toList.take (l.length * 3) = cellsOf l) :
  Calls Tryz.prog 163 #[.int .i64 (i : Int), .bool true, .pointer (some ⟨b2, 0, none⟩), .pointer (some ⟨b1, 0, none⟩)] w fun e w' => e = .returned (.int .i64 (rfT size l i true)) ∧ Below w.heap.size w w' := by
 have hlt : i < l.length := (List.getElem?_eq_some_iff.1 hx).1
 obtain ⟨e0, e1, e2⟩ := jD l i x hx
 have s4 : w.cell? ⟨g, i * 3 + 1, none⟩ = some (.string x.f1) := kG hh h6 e1
 have hi0 : (0 : Int) ≤ (i : Int) := by omega
 have hi1 : (i : Int) < (l.length : Int) := by omega
 obtain ⟨R, hR⟩ : ∃ R, R = rfT size l i true := ⟨_, rfl⟩
 rw [← hR]
 have HR : aC (R = if size < 0 ∨ (x.f1.size : Int) < size then 2 else 0) := ⟨by rw [hR, rfT, if_pos rfl, gZ hx]⟩
 clear hR hx hh h6 e0 e1 e2
 by_cases hs : size < 0
 ·have HE : aC (R = 2) := ⟨by rw [HR.out, if_pos (.inl hs)]⟩
  have hd : decide (size < 0) = true := by simpa using hs
  clear hs
  go_enter Tryz.func163, Tryz.ntmps163
  go_wp2_with (go_at_call 160; refine (oO _ _ _).mono ?_; rintro e w' ⟨rfl, rfl⟩)
  refine fO (n := 16) (S := fun w' => w'.cell? ⟨b2, 0, none⟩ = some (.int .i64 size) ∧ w'.cell? ⟨b1, 0, none⟩ = some (.pointer (some ⟨gp, 0, none⟩)) ∧ w'.cell? ⟨gp, 0, none⟩ = some (.slice (some ⟨g, 0, none⟩) l.length c) ∧ w'.cell? ⟨g, i * 3 + 1, none⟩ = some (.string x.f1)) (ds := []) #[false, false, false, false, false, false, false, false, false, false, false, false, false, false, false, false] (by kernel_rfl) rfl rfl ⟨s3, s1, s2, s4⟩ (fun hHeld => ?_)
  refine tkS (i := 0) (N := some 14) (v := ?_) (a' := ?_) rfl rfl (by kernel_rfl) (fun _ _ _ h => h) (Or.inl ⟨by rfl, ?_⟩) hHeld ?_ ?_
  rotate_left
  ·rintro w' ⟨s0, s1, s2, s3⟩
   go_simp
   with_reducible rfl
  rotate_left
  ·simp only [Act.put, zA, zZ, zS, aI, aJ]
   rfl
  refine puS (i := 1) (N := some 15) (v := ?_) (a' := ?_) rfl rfl (by kernel_rfl) (fun _ _ _ h => h) (Or.inl ⟨by rfl, ?_⟩) ?_ ?_
  rotate_left
  ·intro w'
   go_simp
   with_reducible rfl
  rotate_left
  ·simp only [Act.put, zA, zZ, zS, aI, aJ]
   rfl
  refine puS (i := 2) (N := some 16) (v := ?_) (a' := ?_) rfl rfl (by kernel_rfl) (fun _ _ _ h => h) (Or.inl ⟨by rfl, ?_⟩) ?_ ?_
  rotate_left
  ·intro w'
   go_simp
   with_reducible rfl
  rotate_left
  ·simp only [Act.put, zA, zZ, zS, aI, aJ]
   rfl
  refine puS (i := 3) (N := some 17) (v := undef) (a' := ?_) rfl rfl (by kernel_rfl) (fun _ _ _ h => h) (Or.inr ⟨by rfl, rfl⟩) ?_ ?_
  rotate_left
  ·simp only [Act.put, zA, zZ, zS, aI, aJ]
   rfl
  refine puS (i := 4) (N := some 18) (v := undef) (a' := ?_) rfl rfl (by kernel_rfl) (fun _ _ _ h => h) (Or.inr ⟨by rfl, rfl⟩) ?_ ?_
  rotate_left
  ·simp only [Act.put, zA, zZ, zS, aI, aJ]
   rfl
  refine puS (i := 5) (N := some 19) (v := undef) (a' := ?_) rfl rfl (by kernel_rfl) (fun _ _ _ h => h) (Or.inr ⟨by rfl, rfl⟩) ?_ ?_
  rotate_left
  ·simp only [Act.put, zA, zZ, zS, aI, aJ]
   rfl
  refine puS (i := 6) (N := some 20) (v := undef) (a' := ?_) rfl rfl (by kernel_rfl) (fun _ _ _ h => h) (Or.inr ⟨by rfl, rfl⟩) ?_ ?_
  rotate_left
  ·simp only [Act.put, zA, zZ, zS, aI, aJ]
   rfl
  refine puS (i := 7) (N := some 21) (v := undef) (a' := ?_) rfl rfl (by kernel_rfl) (fun _ _ _ h => h) (Or.inr ⟨by rfl, rfl⟩) ?_ ?_
  rotate_left
  ·simp only [Act.put, zA, zZ, zS, aI, aJ]
   rfl
  refine puS (i := 8) (N := some 22) (v := undef) (a' := ?_) rfl rfl (by kernel_rfl) (fun _ _ _ h => h) (Or.inr ⟨by rfl, rfl⟩) ?_ ?_
  rotate_left
  ·simp only [Act.put, zA, zZ, zS, aI, aJ]
   rfl
  refine puS (i := 9) (N := some 23) (v := undef) (a' := ?_) rfl rfl (by kernel_rfl) (fun _ _ _ h => h) (Or.inr ⟨by rfl, rfl⟩) ?_ ?_
  rotate_left
  ·simp only [Act.put, zA, zZ, zS, aI, aJ]
   rfl
  refine puS (i := 10) (N := some 24) (v := undef) (a' := ?_) rfl rfl (by kernel_rfl) (fun _ _ _ h => h) (Or.inr ⟨by rfl, rfl⟩) ?_ ?_
  rotate_left
  ·simp only [Act.put, zA, zZ, zS, aI, aJ]
   rfl
  refine puS (i := 11) (N := some 25) (v := undef) (a' := ?_) rfl rfl (by kernel_rfl) (fun _ _ _ h => h) (Or.inr ⟨by rfl, rfl⟩) ?_ ?_
  rotate_left
  ·simp only [Act.put, zA, zZ, zS, aI, aJ]
   rfl
  refine puS (i := 12) (N := some 26) (v := undef) (a' := ?_) rfl rfl (by kernel_rfl) (fun _ _ _ h => h) (Or.inr ⟨by rfl, rfl⟩) ?_ ?_
  rotate_left
  ·simp only [Act.put, zA, zZ, zS, aI, aJ]
   rfl
  refine puS (i := 13) (N := some 27) (v := undef) (a' := ?_) rfl rfl (by kernel_rfl) (fun _ _ _ h => h) (Or.inr ⟨by rfl, rfl⟩) ?_ ?_
  rotate_left
  ·simp only [Act.put, zA, zZ, zS, aI, aJ]
   rfl
  refine puS (i := 14) (N := some 28) (v := undef) (a' := ?_) rfl rfl (by kernel_rfl) (fun _ _ _ h => h) (Or.inr ⟨by rfl, rfl⟩) ?_ ?_
  rotate_left
  ·simp only [Act.put, zA, zZ, zS, aI, aJ]
   rfl
  refine puS (i := 15) (N := some 29) (v := ?_) (a' := ?_) rfl rfl (by kernel_rfl) (fun _ _ _ h => h) (Or.inl ⟨by rfl, ?_⟩) ?_ ?_
  rotate_left
  ·intro w'
   go_simp
   with_reducible rfl
  rotate_left
  ·simp only [Act.put, zA, zZ, zS, aI, aJ]
   rfl
  refine iT (by kernel_rfl) ?_
  go_wp2
  go_ret
  exact ⟨by rw [HE.out]; rfl, gI (Below.refl _ _)⟩
 ·have hd : decide (size < 0) = false := by simpa using hs
  by_cases hb : (x.f1.size : Int) < size
  ·have HE : aC (R = 2) := ⟨by rw [HR.out, if_pos (.inr hb)]⟩
   have hd2 : decide ((x.f1.size : Int) < size) = true := by simpa using hb
   clear hs hb
   go_enter Tryz.func163, Tryz.ntmps163
   go_wp2_with (go_at_call 160; refine (oO _ _ _).mono ?_; rintro e w' ⟨rfl, rfl⟩)
   refine fO (n := 16) (S := fun w' => w'.cell? ⟨b2, 0, none⟩ = some (.int .i64 size) ∧ w'.cell? ⟨b1, 0, none⟩ = some (.pointer (some ⟨gp, 0, none⟩)) ∧ w'.cell? ⟨gp, 0, none⟩ = some (.slice (some ⟨g, 0, none⟩) l.length c) ∧ w'.cell? ⟨g, i * 3 + 1, none⟩ = some (.string x.f1)) (ds := []) #[false, false, false, false, false, false, false, false, false, false, false, false, false, false, false, false] (by kernel_rfl) rfl rfl ⟨s3, s1, s2, s4⟩ (fun hHeld => ?_)
   refine tkS (i := 0) (N := some 14) (v := ?_) (a' := ?_) rfl rfl (by kernel_rfl) (fun _ _ _ h => h) (Or.inl ⟨by rfl, ?_⟩) hHeld ?_ ?_
   rotate_left
   ·rintro w' ⟨s0, s1, s2, s3⟩
    go_simp
    with_reducible rfl
   rotate_left
   ·simp only [Act.put, zA, zZ, zS, aI, aJ]
    rfl
   refine puS (i := 1) (N := some 15) (v := ?_) (a' := ?_) rfl rfl (by kernel_rfl) (fun _ _ _ h => h) (Or.inl ⟨by rfl, ?_⟩) ?_ ?_
   rotate_left
   ·intro w'
    go_simp
    with_reducible rfl
   rotate_left
   ·simp only [Act.put, zA, zZ, zS, aI, aJ]
    rfl
   refine puS (i := 2) (N := some 16) (v := ?_) (a' := ?_) rfl rfl (by kernel_rfl) (fun _ _ _ h => h) (Or.inl ⟨by rfl, ?_⟩) ?_ ?_
   rotate_left
   ·intro w'
    go_simp
    with_reducible rfl
   rotate_left
   ·simp only [Act.put, zA, zZ, zS, aI, aJ]
    rfl
   refine puS (i := 9) (N := some 23) (v := ?_) (a' := ?_) rfl rfl (by kernel_rfl) (fun _ _ _ h => h) (Or.inl ⟨by rfl, ?_⟩) ?_ ?_
   rotate_left
   ·intro w'
    go_simp
    with_reducible rfl
   rotate_left
   ·simp only [Act.put, zA, zZ, zS, aI, aJ]
    rfl
   refine tkS (i := 3) (N := some 17) (v := ?_) (a' := ?_) rfl rfl (by kernel_rfl) (fun _ _ _ h => h) (Or.inl ⟨by rfl, ?_⟩) hHeld ?_ ?_
   rotate_left
   ·rintro w' ⟨s0, s1, s2, s3⟩
    go_simp
    with_reducible rfl
   rotate_left
   ·simp only [Act.put, zA, zZ, zS, aI, aJ]
    rfl
   refine tkS (i := 4) (N := some 18) (v := ?_) (a' := ?_) rfl rfl (by kernel_rfl) (fun _ _ _ h => h) (Or.inl ⟨by rfl, ?_⟩) hHeld ?_ ?_
   rotate_left
   ·rintro w' ⟨s0, s1, s2, s3⟩
    go_simp
    with_reducible rfl
   rotate_left
   ·simp only [Act.put, zA, zZ, zS, aI, aJ]
    rfl
   refine puS (i := 5) (N := some 19) (v := ?_) (a' := ?_) rfl rfl (by kernel_rfl) (fun _ _ _ h => h) (Or.inl ⟨by rfl, ?_⟩) ?_ ?_
   rotate_left
   ·intro w'
    go_simp
    with_reducible rfl
   rotate_left
   ·simp only [Act.put, zA, zZ, zS, aI, aJ]
    rfl
   refine puS (i := 6) (N := some 20) (v := ?_) (a' := ?_) rfl rfl (by kernel_rfl) (fun _ _ _ h => h) (Or.inl ⟨by rfl, ?_⟩) ?_ ?_
   rotate_left
   ·intro w'
    go_simp
    with_reducible rfl
   rotate_left
   ·simp only [Act.put, zA, zZ, zS, aI, aJ]
    rfl
   refine puS (i := 7) (N := some 21) (v := ?_) (a' := ?_) rfl rfl (by kernel_rfl) (fun _ _ _ h => h) (Or.inl ⟨by rfl, ?_⟩) ?_ ?_
   rotate_left
   ·intro w'
    go_simp
    with_reducible rfl
   rotate_left
   ·simp only [Act.put, zA, zZ, zS, aI, aJ]
    rfl
   refine tkS (i := 8) (N := some 22) (v := ?_) (a' := ?_) rfl rfl (by kernel_rfl) (fun _ _ _ h => h) (Or.inl ⟨by rfl, ?_⟩) hHeld ?_ ?_
   rotate_left
   ·rintro w' ⟨s0, s1, s2, s3⟩
    go_simp
    with_reducible rfl
   rotate_left
   ·simp only [Act.put, zA, zZ, zS, aI, aJ]
    rfl
   refine puS (i := 10) (N := some 24) (v := ?_) (a' := ?_) rfl rfl (by kernel_rfl) (fun _ _ _ h => h) (Or.inl ⟨by rfl, ?_⟩) ?_ ?_
   rotate_left
   ·intro w'
    go_simp
    with_reducible rfl
   rotate_left
   ·simp only [Act.put, zA, zZ, zS, aI, aJ]
    rfl
   refine puS (i := 11) (N := some 25) (v := ?_) (a' := ?_) rfl rfl (by kernel_rfl) (fun _ _ _ h => h) (Or.inl ⟨by rfl, ?_⟩) ?_ ?_
   rotate_left
   ·intro w'
    go_simp
    with_reducible rfl
   rotate_left
   ·simp only [Act.put, zA, zZ, zS, aI, aJ]
    rfl
   refine tkS (i := 12) (N := some 26) (v := ?_) (a' := ?_) rfl rfl (by kernel_rfl) (fun _ _ _ h => h) (Or.inl ⟨by rfl, ?_⟩) hHeld ?_ ?_
   rotate_left
   ·rintro w' ⟨s0, s1, s2, s3⟩
    go_simp
    with_reducible rfl
   rotate_left
   ·simp only [Act.put, zA, zZ, zS, aI, aJ]
    rfl
   refine puS (i := 13) (N := some 27) (v := ?_) (a' := ?_) rfl rfl (by kernel_rfl) (fun _ _ _ h => h) (Or.inl ⟨by rfl, ?_⟩) ?_ ?_
   rotate_left
   ·intro w'
    go_simp
    with_reducible rfl
   rotate_left
   ·simp only [Act.put, zA, zZ, zS, aI, aJ]
    rfl
   refine puS (i := 14) (N := some 28) (v := ?_) (a' := ?_) rfl rfl (by kernel_rfl) (fun _ _ _ h => h) (Or.inl ⟨by rfl, ?_⟩) ?_ ?_
   rotate_left
   ·intro w'
    go_simp
    with_reducible rfl
   rotate_left
   ·simp only [Act.put, zA, zZ, zS, aI, aJ]
    rfl
   refine puS (i := 15) (N := some 29) (v := ?_) (a' := ?_) rfl rfl (by kernel_rfl) (fun _ _ _ h => h) (Or.inl ⟨by rfl, ?_⟩) ?_ ?_
   rotate_left
   ·intro w'
    go_simp
    with_reducible rfl
   rotate_left
   ·simp only [Act.put, zA, zZ, zS, aI, aJ]
    rfl
   refine iT (by kernel_rfl) ?_
   go_wp2
   go_ret
   exact ⟨by rw [HE.out]; rfl, gI (Below.refl _ _)⟩
  ·have HE : aC (R = 0) := ⟨by rw [HR.out, if_neg (by rintro (h | h) <;> contradiction)]⟩
   have hd2 : decide ((x.f1.size : Int) < size) = false := by simpa using hb
   clear hs hb
   go_enter Tryz.func163, Tryz.ntmps163
   go_wp2_with (go_at_call 160; refine (oO _ _ _).mono ?_; rintro e w' ⟨rfl, rfl⟩)
   refine fO (n := 16) (S := fun w' => w'.cell? ⟨b2, 0, none⟩ = some (.int .i64 size) ∧ w'.cell? ⟨b1, 0, none⟩ = some (.pointer (some ⟨gp, 0, none⟩)) ∧ w'.cell? ⟨gp, 0, none⟩ = some (.slice (some ⟨g, 0, none⟩) l.length c) ∧ w'.cell? ⟨g, i * 3 + 1, none⟩ = some (.string x.f1)) (ds := []) #[false, false, false, false, false, false, false, false, false, false, false, false, false, false, false, false] (by kernel_rfl) rfl rfl ⟨s3, s1, s2, s4⟩ (fun hHeld => ?_)
   refine tkS (i := 0) (N := some 14) (v := ?_) (a' := ?_) rfl rfl (by kernel_rfl) (fun _ _ _ h => h) (Or.inl ⟨by rfl, ?_⟩) hHeld ?_ ?_
   rotate_left
   ·rintro w' ⟨s0, s1, s2, s3⟩
    go_simp
    with_reducible rfl
   rotate_left
   ·simp only [Act.put, zA, zZ, zS, aI, aJ]
    rfl
   refine puS (i := 1) (N := some 15) (v := ?_) (a' := ?_) rfl rfl (by kernel_rfl) (fun _ _ _ h => h) (Or.inl ⟨by rfl, ?_⟩) ?_ ?_
   rotate_left
   ·intro w'
    go_simp
    with_reducible rfl
   rotate_left
   ·simp only [Act.put, zA, zZ, zS, aI, aJ]
    rfl
   refine puS (i := 2) (N := some 16) (v := ?_) (a' := ?_) rfl rfl (by kernel_rfl) (fun _ _ _ h => h) (Or.inl ⟨by rfl, ?_⟩) ?_ ?_
   rotate_left
   ·intro w'
    go_simp
    with_reducible rfl
   rotate_left
   ·simp only [Act.put, zA, zZ, zS, aI, aJ]
    rfl
   refine puS (i := 9) (N := some 23) (v := ?_) (a' := ?_) rfl rfl (by kernel_rfl) (fun _ _ _ h => h) (Or.inl ⟨by rfl, ?_⟩) ?_ ?_
   rotate_left
   ·intro w'
    go_simp
    with_reducible rfl
   rotate_left
   ·simp only [Act.put, zA, zZ, zS, aI, aJ]
    rfl
   refine tkS (i := 3) (N := some 17) (v := ?_) (a' := ?_) rfl rfl (by kernel_rfl) (fun _ _ _ h => h) (Or.inl ⟨by rfl, ?_⟩) hHeld ?_ ?_
   rotate_left
   ·rintro w' ⟨s0, s1, s2, s3⟩
    go_simp
    with_reducible rfl
   rotate_left
   ·simp only [Act.put, zA, zZ, zS, aI, aJ]
    rfl
   refine tkS (i := 4) (N := some 18) (v := ?_) (a' := ?_) rfl rfl (by kernel_rfl) (fun _ _ _ h => h) (Or.inl ⟨by rfl, ?_⟩) hHeld ?_ ?_
   rotate_left
   ·rintro w' ⟨s0, s1, s2, s3⟩
    go_simp
    with_reducible rfl
   rotate_left
   ·simp only [Act.put, zA, zZ, zS, aI, aJ]
    rfl
   refine puS (i := 5) (N := some 19) (v := ?_) (a' := ?_) rfl rfl (by kernel_rfl) (fun _ _ _ h => h) (Or.inl ⟨by rfl, ?_⟩) ?_ ?_
   rotate_left
   ·intro w'
    go_simp
    with_reducible rfl
   rotate_left
   ·simp only [Act.put, zA, zZ, zS, aI, aJ]
    rfl
   refine puS (i := 6) (N := some 20) (v := ?_) (a' := ?_) rfl rfl (by kernel_rfl) (fun _ _ _ h => h) (Or.inl ⟨by rfl, ?_⟩) ?_ ?_
   rotate_left
   ·intro w'
    go_simp
    with_reducible rfl
   rotate_left
   ·simp only [Act.put, zA, zZ, zS, aI, aJ]
    rfl
   refine puS (i := 7) (N := some 21) (v := ?_) (a' := ?_) rfl rfl (by kernel_rfl) (fun _ _ _ h => h) (Or.inl ⟨by rfl, ?_⟩) ?_ ?_
   rotate_left
   ·intro w'
    go_simp
    with_reducible rfl
   rotate_left
   ·simp only [Act.put, zA, zZ, zS, aI, aJ]
    rfl
   refine tkS (i := 8) (N := some 22) (v := ?_) (a' := ?_) rfl rfl (by kernel_rfl) (fun _ _ _ h => h) (Or.inl ⟨by rfl, ?_⟩) hHeld ?_ ?_
   rotate_left
   ·rintro w' ⟨s0, s1, s2, s3⟩
    go_simp
    with_reducible rfl
   rotate_left
   ·simp only [Act.put, zA, zZ, zS, aI, aJ]
    rfl
   refine puS (i := 10) (N := some 24) (v := ?_) (a' := ?_) rfl rfl (by kernel_rfl) (fun _ _ _ h => h) (Or.inl ⟨by rfl, ?_⟩) ?_ ?_
   rotate_left
   ·intro w'
    go_simp
    with_reducible rfl
   rotate_left
   ·simp only [Act.put, zA, zZ, zS, aI, aJ]
    rfl
   refine puS (i := 11) (N := some 25) (v := ?_) (a' := ?_) rfl rfl (by kernel_rfl) (fun _ _ _ h => h) (Or.inl ⟨by rfl, ?_⟩) ?_ ?_
   rotate_left
   ·intro w'
    go_simp
    with_reducible rfl
   rotate_left
   ·simp only [Act.put, zA, zZ, zS, aI, aJ]
    rfl
   refine tkS (i := 12) (N := some 26) (v := ?_) (a' := ?_) rfl rfl (by kernel_rfl) (fun _ _ _ h => h) (Or.inl ⟨by rfl, ?_⟩) hHeld ?_ ?_
   rotate_left
   ·rintro w' ⟨s0, s1, s2, s3⟩
    go_simp
    with_reducible rfl
   rotate_left
   ·simp only [Act.put, zA, zZ, zS, aI, aJ]
    rfl
   refine puS (i := 13) (N := some 27) (v := ?_) (a' := ?_) rfl rfl (by kernel_rfl) (fun _ _ _ h => h) (Or.inl ⟨by rfl, ?_⟩) ?_ ?_
   rotate_left
   ·intro w'
    go_simp
    with_reducible rfl
   rotate_left
   ·simp only [Act.put, zA, zZ, zS, aI, aJ]
    rfl
   refine puS (i := 14) (N := some 28) (v := ?_) (a' := ?_) rfl rfl (by kernel_rfl) (fun _ _ _ h => h) (Or.inl ⟨by rfl, ?_⟩) ?_ ?_
   rotate_left
   ·intro w'
    go_simp
    with_reducible rfl
   rotate_left
   ·simp only [Act.put, zA, zZ, zS, aI, aJ]
    rfl
   refine puS (i := 15) (N := some 29) (v := ?_) (a' := ?_) rfl rfl (by kernel_rfl) (fun _ _ _ h => h) (Or.inl ⟨by rfl, ?_⟩) ?_ ?_
   rotate_left
   ·intro w'
    go_simp
    with_reducible rfl
   rotate_left
   ·simp only [Act.put, zA, zZ, zS, aI, aJ]
    rfl
   refine iT (by kernel_rfl) ?_
   go_wp2
   go_ret
   exact ⟨by rw [HE.out]; rfl, gI (Below.refl _ _)⟩
set_option maxHeartbeats 4000000 in
theorem qds (gp b1 b2 : Nat) (w : World) (base : Nat) (l : List S67) (size : Nat) (A : Option Addr) (c : Nat) (dn : Bool) (fu fa : Int) (i : Nat) (x : S67) (hx : l[i]? = some x) (hsz : size ≤ x.f1.size) (hn : l.length ≤ 64) (hs1 : x.f1.size ≤ 262144) (hb1 : w.heap[b1]? = some (.cells #[.pointer (some ⟨gp, 0, none⟩)] 176 (0, 0)))
  (hb2 : w.heap[b2]? = some (.cells #[.int .i64 (size : Int)] 3 (0, 0))) (hp : P6 w base gp (.slice A l.length c) l dn fu fa) :
  Calls Tryz.prog 164 #[.int .i64 (i : Int), .pointer (some ⟨b1, 0, none⟩), .pointer (some ⟨b2, 0, none⟩)] w (Done w base gp dn fu fa (l.set i ⟨x.f0, x.f1.extract 0 size, (size : Int)⟩)) := by
 obtain ⟨hp, ho⟩ := hp
 have hlt : i < l.length := (List.getElem?_eq_some_iff.1 hx).1
 obtain ⟨g, cur, rfl, _, hg, hh, h3, h4, h5, h6⟩ := lT ho (by omega)
 obtain ⟨e0, e1, e2⟩ := jD l i x hx
 have s1 : w.cell? ⟨b1, 0, none⟩ = some (.pointer (some ⟨gp, 0, none⟩)) := (aH hb1 0).trans rfl
 have s2 : w.cell? ⟨gp, 0, none⟩ = some (.slice (some ⟨g, 0, none⟩) l.length c) := (aH hp 0).trans rfl
 have s3 : w.cell? ⟨b2, 0, none⟩ = some (.int .i64 (size : Int)) := (aH hb2 0).trans rfl
 have s4 : w.cell? ⟨g, i * 3 + 1, none⟩ = some (.string x.f1) := kG hh h6 e1
 have s6 : w.cell? ⟨g, i * 3 + 2, none⟩ = some (.int .i64 x.f2) := kG hh h6 e2
 have s5 := aG hh (i * 3 + 1)
 have s7 := aG hh (i * 3 + 2)
 have ngp : g ≠ gp := gW hh hp (by decide)
 have HX := aC.mk hx
 have HO := aC.mk ho
 have HP := aC.mk hp
 have HH := aC.mk hh
 have NGP := aC.mk ngp
 have HG := aC.mk hg
 have hi0 : (0 : Int) ≤ (i : Int) := by omega
 have hi1 : (i : Int) < (l.length : Int) := by omega
 have hz1 : (0 : Int) ≤ (size : Int) := by omega
 have hz2 : (size : Int) ≤ (x.f1.size : Int) := by omega
 clear hx ho hp hh ngp h3 h4 h5 h6 e0 e1 e2 hb1 hg hb2
 go_enter Tryz.func164, Tryz.ntmps164
 go_wp2
 go_region
 go_end0
 have h1 := G9 (u := .string (x.f1.extract 0 size)) HO.out (l' := l.set i ⟨x.f0, x.f1.extract 0 size, x.f2⟩) (by rw [List.length_set]) (lS l i x _ HX.out) (j := i * 3 + 1) (by omega)
 have hx2 : (l.set i ⟨x.f0, x.f1.extract 0 size, x.f2⟩)[i]? = some (⟨x.f0, x.f1.extract 0 size, x.f2⟩ : S67) := by simp [hlt]
 have h2 := G9 (u := .int .i64 (size : Int)) h1 (l' := l.set i ⟨x.f0, x.f1.extract 0 size, (size : Int)⟩) (by rw [List.length_set, List.length_set]) (by
  have := jS _ i _ (size : Int) hx2
  rw [this, List.set_set]) (j := i * 3 + 2) (by rw [List.length_set]; omega)
 rw [List.length_set] at h2
 refine ⟨rfl, .slice (some ⟨g, 0, none⟩) l.length c, bQ (dO (p := ⟨g, i * 3 + 2, none⟩) (dO (p := ⟨g, i * 3 + 1, none⟩) HP.out (fun e => NGP.out e.symm) _) (fun e => NGP.out e.symm) _), h2, gI (((Below.refl base w).setCell HG.out _).setCell HG.out _), fun k cs h => ?_⟩
 have hk := gW h HH.out (by decide)
 exact bQ (dO (p := ⟨g, i * 3 + 2, none⟩) (dO (p := ⟨g, i * 3 + 1, none⟩) h hk _) hk _)
set_option maxHeartbeats 4000000 in
theorem Y3 (W w1 : World) (gp : Nat) (v : Value) (l : List S67) (dn : Bool) (fu fa : Int) (size : Int) (sd : Int → List S67) (hsd : ∀ (i n : Nat) (x : S67), l[i]? = some x → size = (n : Int) → n ≤ x.f1.size → sd (i : Int) = l.set i ⟨x.f0, x.f1.extract 0 n, (n : Int)⟩) (hb : Below W.heap.size W w1) (hgp : W.heap.size ≤ gp) (hp : w1.heap[gp]? = some (.cells #[v, .bool dn, .int .i64 fu, .int .i64 fa] 211 (0, 0)))
  (ho : Kd.R k67 67 w1 W.heap.size (fun _ => True) v l) (hok : bI l = true) :
  Calls Tryz.prog 120 #[.pointer (some ⟨gp, 0, none⟩), .int .i64 size] w1 fun e w2 => ∃ rv dv : Value, e = .returned (.agg #[rv, dv, .bool false]) ∧ Below w1.heap.size w1 w2 ∧ qbS w2 rv l.length (rfT size l) ∧ DoV W.heap.size gp w2 dv v l (rfT size l) sd := by
 obtain ⟨A, c, rfl⟩ := Kd.dZ ho
 have hlt : gp < w1.heap.size := gJ hp
 have hle : l.length ≤ 64 := by
  simp only [bI, Bool.and_eq_true, decide_eq_true_eq] at hok
  exact hok.2
 go_enter Tryz.func120, Tryz.ntmps120
 go_wp2
 refine bodyPost_ret (results_cell_row rfl _ _ (w1.heap.size + 2) 179 #[.func (.func 163) #[] #[.pointer (some ⟨w1.heap.size + 1, 0, none⟩), .pointer (some ⟨w1.heap.size, 0, none⟩)], .func (.func 164) #[] #[.pointer (some ⟨w1.heap.size, 0, none⟩), .pointer (some ⟨w1.heap.size + 1, 0, none⟩)], .bool false] (0, 0) _ rfl (qaF w1 _ _ _) Tryz.underlying179 rfl (by kernel_rfl)) rfl ?_
 refine ⟨_, _, rfl, aQ (aQ (aQ (Below.refl _ _) _) _) _, ⟨163, _, rfl, qaP, fun w3 i b hb3 hil hib => ?_⟩, 164, _, rfl, qaQ, fun w3 i b dn fu fa hk hil hib hrf hp3 ho3 => ?_⟩
 ·refine fB (args' := #[.int .i64 (i : Int), .bool b, .pointer (some ⟨w1.heap.size + 1, 0, none⟩), .pointer (some ⟨w1.heap.size, 0, none⟩)]) (by simp) ?_
  have IX := hb3 _ _ _ (by decide) (by decide) (by simp) (KZ w1 _ _ _)
  have IY := hb3 _ _ _ (by decide) (by decide) (by simp) (LC w1 _ _ _)
  have hpp := hb3 _ _ _ (by decide) (by decide) (by simp) (bC (bC (bC hp _) _) _)
  cases b with
  | false =>
   refine (P9 w3 _ _ size l i).mono ?_
   rintro e w4 ⟨rfl, rfl⟩
   exact ⟨rfl, Below.refl _ _⟩
  | true =>
   obtain ⟨x, hx⟩ := uH (hib rfl)
   obtain ⟨g, cur, rfl, _, hg, hh, h3, h4, h5, h6⟩ := lT ho (by have := hib rfl; omega)
   exact S9 w3 gp w1.heap.size (w1.heap.size + 1) g cur size l c i x hx hle ((aH IY 0).trans rfl) ((aH IX 0).trans rfl) ((aH hpp 0).trans rfl) (hb3 _ _ _ (by decide) (by decide) (by simp) (bC (bC (bC hh _) _) _)) h6
 ·refine fB (args' := #[.int .i64 (i : Int), .pointer (some ⟨w1.heap.size, 0, none⟩), .pointer (some ⟨w1.heap.size + 1, 0, none⟩)]) (by simp) ?_
  have IX := hk _ _ _ (by decide) (by decide) (fun h => by injection h with h; omega) (KZ w1 _ _ _)
  have IY := hk _ _ _ (by decide) (by decide) (fun h => by injection h with h; omega) (LC w1 _ _ _)
  have hsz : W.heap.size ≤ w3.heap.size := by have := gJ hp3; omega
  have hbt : b = true := by
   cases b
   ·simp [rfT] at hrf
   ·rfl
  subst hbt
  obtain ⟨x, hx⟩ := uH (hib rfl)
  rw [rfT, if_pos rfl, gZ hx] at hrf
  split at hrf
  ·cases hrf
  rename_i hno
  obtain ⟨n, rfl⟩ : ∃ n : Nat, size = (n : Int) := ⟨size.toNat, by omega⟩
  have hn : n ≤ x.f1.size := by omega
  refine (qds gp w1.heap.size (w1.heap.size + 1) w3 W.heap.size l n A c dn fu fa i x hx hn hle (rM hok hx).2.1 IX IY ⟨hp3, ho3⟩).mono fun e w4 h => ?_
  rw [hsd i n x hx rfl hn]
  exact h
set_option maxHeartbeats 4000000 in
theorem qdt (W : World) (nb : Nat) (l : List S67) (dn : Bool) (fu fa : Int) (size : Int) (sd : Int → List S67) (hsd : ∀ (i n : Nat) (x : S67), l[i]? = some x → size = (n : Int) → n ≤ x.f1.size → sd (i : Int) = l.set i ⟨x.f0, x.f1.extract 0 n, (n : Int)⟩) (hnb : W.heap[nb]? = some (.cells #[.int .i64 size] 3 (0, 0))) :
  OfV W 119 #[.pointer (some ⟨nb, 0, none⟩)] l dn fu fa false (rfT size l) sd := by
 intro w1 gp v hb hgp hp ho hok
 have hc := (aH (bG hnb hb) 0).trans rfl
 refine fB (args' := #[.pointer (some ⟨gp, 0, none⟩), .pointer (some ⟨nb, 0, none⟩)]) (by simp) ?_
 have HB := aC.mk hb
 have HGP := aC.mk hgp
 have HP := aC.mk hp
 have HO := aC.mk ho
 have HOK := aC.mk hok
 clear hb hgp hp ho hok hnb
 go_enter Tryz.func119, Tryz.ntmps119
 go_wp2_with (first
 |((with_reducible refine aU (N := 3) rfl ?_);
   refine dL ?hg (N := 3) ?hd (cs := #[.nilFunc, .nilFunc, .bool false]) (t := 179) ?hr ?_;
   (case hd => rfl); (case hg => rfl); (case hr => first | (go_simp; done) | (go_simp; rfl));
   intro g3 hg w2 hbox hb2;
   have N3 := aC.mk (show w1.heap.size ≤ g3 by rw [hg]; exact Nat.le_refl _);
   have hc2 := (hb2.cell (World.block_lt_of_cell? w1 _ hc)).trans hc;
   have HB2 := aC.mk hb2; have BK3 := aC.mk hbox; clear hg hbox hb2 hc)
 |fail)
 refine ((Y3 W _ gp v l dn fu fa size sd hsd (bF HB.out HB2.out) HGP.out (bG HP.out HB2.out) (Kd.qB HO.out HB2.out) HOK.out).mono ?_)
 rintro e w4 ⟨rv, dv, rfl, hb4, ⟨Kr, cr, rfl, hKr, hrf⟩, ⟨Kd_, cd, rfl, hKd, hdo⟩⟩
 have HKr := aC.mk hKr
 have Hrf := aC.mk hrf
 have HKd := aC.mk hKd
 have Hdo := aC.mk hdo
 have HB4 := aC.mk hb4
 have bk := bG BK3.out hb4
 have c0 := (aH bk 0).trans rfl
 have c1 := (aH bk 1).trans rfl
 have c2 := (aH bk 2).trans rfl
 have f0 := aG bk 0
 have f1 := aG bk 1
 have f2 := aG bk 2
 have BK4 := aC.mk bk
 clear hKr hrf hKd hdo hb4 bk
 go_wp2
 refine bodyPost_ret (results_cell_row rfl _ _ g3 179 #[.func (.func Kr) #[] cr, .func (.func Kd_) #[] cd, .bool false] (0, 0) _ rfl (qbT BK4.out _ _ _) Tryz.underlying179 rfl (by kernel_rfl)) rfl ?_
 have hw4 : Below w1.heap.size w1 w4 := bF HB2.out HB4.out
 have hgg : ∀ (k : Nat), k ≠ g3 → (((w4.setCell ⟨g3, 0, none⟩ (.func (.func Kr) #[] cr)).setCell ⟨g3, 1, none⟩ (.func (.func Kd_) #[] cd)).setCell ⟨g3, 2, none⟩ (.bool false)).heap[k]? = w4.heap[k]? := fun k hk =>
  ((Below.heap_setCell _ ⟨g3, 2, none⟩ _ k hk).trans (Below.heap_setCell _ ⟨g3, 1, none⟩ _ k hk)).trans (Below.heap_setCell _ ⟨g3, 0, none⟩ _ k hk)
 refine ⟨_, _, rfl, below3 hw4 N3.out _ _ _, ⟨Kr, cr, rfl, HKr.out, ?_⟩, Kd_, cd, rfl, HKd.out, ?_⟩
 ·intro w5 i b hk hil hib
  refine Hrf.out w5 i b (fun k cs t h1 h2 h3 h4 => hk k cs t h1 h2 h3 ?_) hil hib
  rw [hgg k (fun e => by subst e; exact absurd h4 (Y0 BK4.out h1))]
  exact h4
 ·intro w5 i b dn fu fa hk
  refine Hdo.out w5 i b dn fu fa (fun k cs t h1 h2 h3 h4 => hk k cs t h1 h2 h3 ?_)
  rw [hgg k (fun e => by subst e; exact absurd h4 (Y0 BK4.out h1))]
  exact h4
theorem lG (g k : Nat) (hk : k ≠ g) : ∀ (vs : List Value) (o : Nat) (w : World), (w.setCells g o vs).heap[k]? = w.heap[k]?
 | [], _, _ => rfl
 | v :: r, o, w => by
  rw [World.setCells, lG g k hk r (o + 1)]
  exact Below.heap_setCell w ⟨g, o, none⟩ v k hk
theorem lH {B g : Nat} {w : World} (hB : B ≤ g) : ∀ (vs : List Value) (o : Nat) (W : World), Below B w W → Below B w (W.setCells g o vs)
 | [], _, _, h => h
 | v :: r, o, W, h => lH hB r (o + 1) _ (h.setCell hB v)
def Y4 : List Value → Nat → List Value → List Value
 | xs, _, [] => xs
 | xs, o, v :: r => Y4 (xs.set o v) (o + 1) r
theorem vJ : ∀ (vs xs : List Value) (o : Nat), o + vs.length ≤ xs.length → Y4 xs o vs = xs.take o ++ vs ++ xs.drop (o + vs.length)
 | [], xs, o, h => by simp [Y4]
 | v :: r, xs, o, h => by
  simp only [List.length_cons] at h
  rw [Y4, vJ r (xs.set o v) (o + 1) (by rw [List.length_set]; omega)]
  rw [List.take_set, List.drop_set_of_lt (by omega), List.length_cons, show o + 1 + r.length = o + (r.length + 1) by omega]
  have h1 : (xs.take (o + 1)).set o v = xs.take o ++ [v] := by
   rw [List.take_succ_eq_append_getElem (by omega), List.set_append_right _ _ (by rw [List.length_take]; omega)]
   rw [List.length_take, show o - min o xs.length = 0 by omega]
   rfl
  rw [h1]
  simp
theorem kH (g t : Nat) : ∀ (vs : List Value) (o : Nat) (w : World) (cur : Array Value), w.heap[g]? = some (.cells cur t (0, 0)) → ∃ cur', (w.setCells g o vs).heap[g]? = some (.cells cur' t (0, 0)) ∧ cur'.size = cur.size ∧ cur'.toList = Y4 cur.toList o vs
 | [], o, w, cur, h => ⟨cur, h, rfl, rfl⟩
 | v :: r, o, w, cur, h => by
  obtain ⟨cur', h1, h2, h3⟩ := kH g t r (o + 1) (w.setCell ⟨g, o, none⟩ v) (cur.setIfInBounds o v) (BZ h o v)
  exact ⟨cur', h1, by simpa using h2, by rw [h3]; simp [Y4]⟩
theorem qdu (w : World) : (zeroValue 67).run Tryz.prog w = .ok (.agg #[.string ⟨#[]⟩, .string ⟨#[]⟩, .int .i64 0]) w := by kernel_rfl
theorem QA (w : World) (ty g o c : Nat) (hc : ∀ j, j < 3 → (w.cell? ⟨g, o + j, none⟩).isSome = true) (hf : ∀ j, j < 3 → w.frozen? ⟨g, o + j, none⟩ = false) :
  (Builtin.clear_ #[25] ty #[.slice (some ⟨g, o, none⟩) 1 c]).run Tryz.prog w = .ok (.tuple #[]) (w.setCells g o [.string ⟨#[]⟩, .string ⟨#[]⟩, .int .i64 0]) := by
 have hzc : (Builtin.zeroCells (Value.agg #[.string ⟨#[]⟩, .string ⟨#[]⟩, .int .i64 0]).cells 1).toList = [.string ⟨#[]⟩, .string ⟨#[]⟩, .int .i64 0] := by kernel_rfl
 have hst := run_storeCells_cells (P := Tryz.prog) g o [.string ⟨#[]⟩, .string ⟨#[]⟩, .int .i64 0] 0 w (by simpa using hc) (by simpa using hf) (by intro v hv'; simp at hv'; rcases hv' with rfl | rfl | rfl <;> rfl)
 simp only [Nat.add_zero] at hst
 simp [Builtin.clear_, run_underlying Tryz.underlying25, qdu, hzc, hst]
set_option maxHeartbeats 8000000 in
theorem AO (w : World) (base : Nat) (l : List S67) (g c : Nat) (i m : Nat) (hl : l.length = i + m + 1) (hn : l.length ≤ 64) (ho : Kd.R k67 67 w base (fun _ => True) (.slice (some ⟨g, 0, none⟩) l.length c) l) :
  Calls Tryz.prog 162 #[.slice (some ⟨g, 0, none⟩) (i + m + 1) c, .int .i64 (i : Int), .int .i64 ((i : Int) + 1)] w fun e w4 => e = .returned (.slice (some ⟨g, 0, none⟩) (i + m) c) ∧
   Kd.R k67 67 w4 base (fun _ => True) (.slice (some ⟨g, 0, none⟩) (i + m) c) (l.take i ++ l.drop (i + 1)) ∧ Below base w w4 ∧ ∀ k, k ≠ g → w4.heap[k]? = w.heap[k]? := by
 obtain ⟨g', cur, e, _, hg, hh, h3, h4, h5, h6⟩ := lT ho (by omega)
 injection e with e
 injection e with e
 subst e
 obtain ⟨i0, hi0, hz0, hz1, hz2⟩ := CS
 have hic : i + m + 1 ≤ c := by omega
 have him : i + m + 1 ≤ 64 := by omega
 have hi7 : i ≤ c := by omega
 have hcm : c ≤ 9223372036854775807 := by unfold maxLen at h4; omega
 have hne : ((i : Int) == (i : Int) + 1) = false := by simp; omega
 have HL := aC.mk hl
 have HI0 := aC.mk hi0
 have HZ1 := aC.mk hz1
 have HH := aC.mk hh
 have H6 := aC.mk h6
 have HG := aC.mk hg
 have H5 := aC.mk h5
 have hnews : aC ((cellsOf (l.drop (i + 1))).length = m * 3) := ⟨by rw [cellsOf_length, List.length_drop]; omega⟩
 have hspare : aC (∀ j, j < (cellsOf (l.drop (i + 1))).length → (w.drew.cell? ⟨g, 0 + i * 3 + j, none⟩).isSome = true ∧ w.drew.frozen? ⟨g, 0 + i * 3 + j, none⟩ = false) := ⟨fun j hj => by
  rw [hnews.out] at hj
  refine ⟨?_, aG (bQ hh) _⟩
  rw [aH (bQ hh), Array.getElem?_eq_getElem (by omega)]
  rfl⟩
 have hcell : aC (∀ j u, (cellsOf (l.drop (i + 1)))[j]? = some u → w.drew.cell? ⟨g, (i + 1) * 3 + j, none⟩ = some u) := ⟨fun j u hu => by
  rw [kL, List.getElem?_drop] at hu
  exact kG (bQ hh) h6 hu⟩
 clear hl hi0 hz0 hz1 hz2 hh h6 hg h5 h4 h3 ho hn
 have hend : ∀ W : World, W = (w.drew.setCells g (0 + i * 3) (cellsOf (l.drop (i + 1)))) → aC ((∀ j, j < 3 → (W.cell? ⟨g, (i + m) * 3 + j, none⟩).isSome = true) ∧ (∀ j, j < 3 → W.frozen? ⟨g, (i + m) * 3 + j, none⟩ = false) ∧
   Kd.R k67 67 (W.setCells g ((i + m) * 3) [.string ⟨#[]⟩, .string ⟨#[]⟩, .int .i64 0]) base (fun _ => True) (.slice (some ⟨g, 0, none⟩) (i + m) c) (l.take i ++ l.drop (i + 1)) ∧ Below base w (W.setCells g ((i + m) * 3) [.string ⟨#[]⟩, .string ⟨#[]⟩, .int .i64 0]) ∧
   ∀ k, k ≠ g → (W.setCells g ((i + m) * 3) [.string ⟨#[]⟩, .string ⟨#[]⟩, .int .i64 0]).heap[k]? = w.heap[k]?) := by
  rintro W rfl
  obtain ⟨qdv, hc1, hs1, hl1⟩ := kH g 67 (cellsOf (l.drop (i + 1))) (0 + i * 3) w.drew cur (bQ HH.out)
  obtain ⟨qdw, hc2, hs2, hl2⟩ := kH g 67 [.string ⟨#[]⟩, .string ⟨#[]⟩, .int .i64 0] ((i + m) * 3) _ qdv hc1
  have hsz : cur.size = c * 3 := H5.out
  have hct : cur.toList.length = c * 3 := by simpa using hsz
  refine ⟨fun j hj => ?_, fun j hj => aG hc1 _, ?_, ?_, fun k hk => ?_⟩
  ·rw [aH hc1, Array.getElem?_eq_getElem (by omega)]
   rfl
  ·have hlen : (l.take i ++ l.drop (i + 1)).length = i + m := by rw [List.length_append, List.length_take, List.length_drop, HL.out]; omega
   refine l9 ⟨by rw [cellsOf_length], .inr ⟨g, c, qdw, by rw [hlen], HG.out, hc2, by omega, ?_, by omega, ?_⟩⟩
   ·unfold maxLen; omega
   ·rw [hl2, hl1, hlen, vJ _ _ _ (by
     rw [vJ _ _ _ (by rw [hnews.out, hct]; omega)]
     simp [hct, hnews.out]; omega)]
    rw [vJ _ _ _ (by rw [hnews.out, hct]; omega), o7, jR, hnews.out, Nat.zero_add]
    have h6 := H6.out
    have e1 : cur.toList.take (i * 3) = (cellsOf l).take (i * 3) := by rw [← h6, List.take_take]; congr 1; rw [HL.out]; omega
    have e2 : (cur.toList.take (i * 3) ++ cellsOf (l.drop (i + 1))).length = (i + m) * 3 := by rw [List.length_append, List.length_take, hnews.out, hct]; omega
    rw [List.append_assoc, List.take_append_of_le_length (by rw [List.length_take, List.length_append, List.length_append, List.length_take, hnews.out, hct, List.length_drop, hct]; omega)]
    rw [List.take_take, Nat.min_self, List.take_append_of_le_length (by omega), ← e2, List.take_length, e1]
  ·exact lH HG.out _ _ _ (lH HG.out _ _ _ (gI (Below.refl base w)))
  ·rw [lG g k hk, lG g k hk]
   rfl
 have AP := aC.mk hend
 clear hend
 have NC : ∀ (ty c' : Nat) (W : World), W = (w.drew.setCells g (0 + i * 3) (cellsOf (l.drop (i + 1)))) → (Builtin.clear_ #[25] ty #[.slice (some ⟨g, (i + m) * 3, none⟩) 1 c']).run Tryz.prog W = .ok (.tuple #[]) (W.setCells g ((i + m) * 3) [.string ⟨#[]⟩, .string ⟨#[]⟩, .int .i64 0]) := fun ty c' W hW =>
  QA W ty g ((i + m) * 3) c' ((AP.out W hW).out.1) ((AP.out W hW).out.2.1)
 have IZ := aC.mk NC
 clear NC
 by_cases hci : c = i + 1
 ·have hm0 : m = 0 := by omega
  subst hm0
  subst hci
  simp only [Nat.add_zero] at AP IZ HL hic him ⊢
  have z1 : (i : Int) ≤ (i : Int) + 1 := by omega
  have z2 : (0 : Int) ≤ (i : Int) + 1 := by omega
  go_enter Tryz.func162, Tryz.ntmps162
  go_wp2
  refine fO (n := 8) (S := fun w' => True) (ds := []) #[false, false, false, false, false, false, false, false] (by kernel_rfl) rfl rfl trivial (fun hHeld => ?_)
  refine puS (i := 0) (N := some 20) (v := ?_) (a' := ?_) rfl rfl (by kernel_rfl) (fun _ _ _ h => h) (Or.inl ⟨by rfl, ?_⟩) ?_ ?_
  rotate_left
  ·intro w'
   go_simp
   with_reducible rfl
  rotate_left
  ·simp only [Act.put, zA, zZ, zS, aI, aJ]
   rfl
  refine puS (i := 1) (N := some 21) (v := ?_) (a' := ?_) rfl rfl (by kernel_rfl) (fun _ _ _ h => h) (Or.inl ⟨by rfl, ?_⟩) ?_ ?_
  rotate_left
  ·intro w'
   go_simp
   with_reducible rfl
  rotate_left
  ·simp only [Act.put, zA, zZ, zS, aI, aJ]
   rfl
  refine puS (i := 2) (N := some 22) (v := ?_) (a' := ?_) rfl rfl (by kernel_rfl) (fun _ _ _ h => h) (Or.inl ⟨by rfl, ?_⟩) ?_ ?_
  rotate_left
  ·intro w'
   go_simp
   with_reducible rfl
  rotate_left
  ·simp only [Act.put, zA, zZ, zS, aI, aJ]
   rfl
  refine puS (i := 3) (N := some 23) (v := ?_) (a' := ?_) rfl rfl (by kernel_rfl) (fun _ _ _ h => h) (Or.inl ⟨by rfl, ?_⟩) ?_ ?_
  rotate_left
  ·intro w'
   go_simp
   with_reducible rfl
  rotate_left
  ·simp only [Act.put, zA, zZ, zS, aI, aJ]
   rfl
  refine puS (i := 4) (N := some 24) (v := ?_) (a' := ?_) rfl rfl (by kernel_rfl) (fun _ _ _ h => h) (Or.inl ⟨by rfl, ?_⟩) ?_ ?_
  rotate_left
  ·intro w'
   go_simp
   with_reducible rfl
  rotate_left
  ·simp only [Act.put, zA, zZ, zS, aI, aJ]
   rfl
  refine puS (i := 5) (N := some 25) (v := ?_) (a' := ?_) rfl rfl (by kernel_rfl) (fun _ _ _ h => h) (Or.inl ⟨by rfl, ?_⟩) ?_ ?_
  rotate_left
  ·intro w'
   go_simp
   with_reducible rfl
  rotate_left
  ·simp only [Act.put, zA, zZ, zS, aI, aJ]
   rfl
  refine onS (i := 6) (N := some 26) rfl rfl (by kernel_rfl) (by decide) (fun K hK => ?_)
  refine step_append_room rfl (.tmp 22) (.tmp 25) 25 rfl 67 i0 3 Tryz.underlying25 HI0.out HZ1.out g 0 i (i + 1) rfl ⟨g, 0, none⟩ 0 0 (cellsOf (l.drop (i + 1))) rfl hnews.out ?ncz (qK _) (by omega) hspare.out ?_
  case ncz => intro j u hu; exact absurd (List.getElem?_eq_some_iff.1 hu).1 (by rw [hnews.out]; omega)
  refine hK.out _ _ trivial (fun hHeld => ?_)
  clear hK K
  refine fE (a' := ?_) ?_ ?_
  rotate_left
  ·show Act.put _ (some 26) _ = _
   simp only [Act.put, zA, zZ, zS, aI, aJ]
   rfl
  refine puS (i := 7) (N := some 0) (v := ?_) (a' := ?_) rfl rfl (by kernel_rfl) (fun _ _ _ h => h) (Or.inl ⟨by rfl, ?_⟩) ?_ ?_
  rotate_left
  ·intro w'
   go_simp
   with_reducible rfl
  rotate_left
  ·simp only [Act.put, zA, zZ, zS, aI, aJ]
   rfl
  refine iT (by kernel_rfl) ?_
  obtain ⟨W, hW⟩ : ∃ W, W = (w.drew.setCells g (0 + i * 3) (cellsOf (l.drop (i + 1)))) := ⟨_, rfl⟩
  rw [← hW]
  have NC := fun ty c' => IZ.out ty c' W hW
  have HW := AP.out W hW
  clear hW AP IZ hHeld
  go_wp2
  go_ret
  exact ⟨rfl, HW.out.2.2.1, HW.out.2.2.2.1, HW.out.2.2.2.2⟩
 ·have z2 : (0 : Int) ≤ (i : Int) + 1 := by omega
  have z3 : (i : Int) + 1 ≤ (i : Int) + (m : Int) + 1 := by omega
  have z4 : i + 1 ≤ c := by omega
  have z5 : (i : Int) + 1 ≤ (c : Int) := by omega
  go_enter Tryz.func162, Tryz.ntmps162
  go_wp2
  refine fO (n := 8) (S := fun w' => True) (ds := []) #[false, false, false, false, false, false, false, false] (by kernel_rfl) rfl rfl trivial (fun hHeld => ?_)
  refine puS (i := 0) (N := some 20) (v := ?_) (a' := ?_) rfl rfl (by kernel_rfl) (fun _ _ _ h => h) (Or.inl ⟨by rfl, ?_⟩) ?_ ?_
  rotate_left
  ·intro w'
   go_simp
   with_reducible rfl
  rotate_left
  ·simp only [Act.put, zA, zZ, zS, aI, aJ]
   rfl
  refine puS (i := 1) (N := some 21) (v := ?_) (a' := ?_) rfl rfl (by kernel_rfl) (fun _ _ _ h => h) (Or.inl ⟨by rfl, ?_⟩) ?_ ?_
  rotate_left
  ·intro w'
   go_simp
   with_reducible rfl
  rotate_left
  ·simp only [Act.put, zA, zZ, zS, aI, aJ]
   rfl
  refine puS (i := 2) (N := some 22) (v := ?_) (a' := ?_) rfl rfl (by kernel_rfl) (fun _ _ _ h => h) (Or.inl ⟨by rfl, ?_⟩) ?_ ?_
  rotate_left
  ·intro w'
   go_simp
   with_reducible rfl
  rotate_left
  ·simp only [Act.put, zA, zZ, zS, aI, aJ]
   rfl
  refine puS (i := 3) (N := some 23) (v := ?_) (a' := ?_) rfl rfl (by kernel_rfl) (fun _ _ _ h => h) (Or.inl ⟨by rfl, ?_⟩) ?_ ?_
  rotate_left
  ·intro w'
   go_simp
   with_reducible rfl
  rotate_left
  ·simp only [Act.put, zA, zZ, zS, aI, aJ]
   rfl
  refine puS (i := 4) (N := some 24) (v := ?_) (a' := ?_) rfl rfl (by kernel_rfl) (fun _ _ _ h => h) (Or.inl ⟨by rfl, ?_⟩) ?_ ?_
  rotate_left
  ·intro w'
   go_simp
   with_reducible rfl
  rotate_left
  ·simp only [Act.put, zA, zZ, zS, aI, aJ]
   rfl
  refine puS (i := 5) (N := some 25) (v := ?_) (a' := ?_) rfl rfl (by kernel_rfl) (fun _ _ _ h => h) (Or.inl ⟨by rfl, ?_⟩) ?_ ?_
  rotate_left
  ·intro w'
   go_simp
   with_reducible rfl
  rotate_left
  ·simp only [Act.put, zA, zZ, zS, aI, aJ]
   rfl
  refine onS (i := 6) (N := some 26) rfl rfl (by kernel_rfl) (by decide) (fun K hK => ?_)
  refine step_append_room rfl (.tmp 22) (.tmp 25) 25 rfl 67 i0 3 Tryz.underlying25 HI0.out HZ1.out g 0 i c rfl ⟨g, (i + 1) * 3, none⟩ m (c - (i + 1)) (cellsOf (l.drop (i + 1))) rfl hnews.out ?ncg (qK _) (by omega) hspare.out ?_
  case ncg => intro j u hu; rw [add_plain']; exact hcell.out j u hu
  refine hK.out _ _ trivial (fun hHeld => ?_)
  clear hK K
  refine fE (a' := ?_) ?_ ?_
  rotate_left
  ·show Act.put _ (some 26) _ = _
   simp only [Act.put, zA, zZ, zS, aI, aJ]
   rfl
  refine puS (i := 7) (N := some 0) (v := ?_) (a' := ?_) rfl rfl (by kernel_rfl) (fun _ _ _ h => h) (Or.inl ⟨by rfl, ?_⟩) ?_ ?_
  rotate_left
  ·intro w'
   go_simp
   with_reducible rfl
  rotate_left
  ·simp only [Act.put, zA, zZ, zS, aI, aJ]
   rfl
  refine iT (by kernel_rfl) ?_
  obtain ⟨W, hW⟩ : ∃ W, W = (w.drew.setCells g (0 + i * 3) (cellsOf (l.drop (i + 1)))) := ⟨_, rfl⟩
  rw [← hW]
  have NC := fun ty c' => IZ.out ty c' W hW
  have HW := AP.out W hW
  clear hW AP IZ hHeld
  go_wp2
  go_ret
  exact ⟨rfl, HW.out.2.2.1, HW.out.2.2.2.1, HW.out.2.2.2.2⟩
theorem QB {B : Nat} {w W : World} (h : Below B w.drew W) : Below B w W := ⟨h.os, h.tape, h.output, h.size, h.block⟩
theorem qaR : Enters 161 := fun args w => jO Tryz.func161 (by kernel_rfl) (by kernel_rfl) args w
set_option maxHeartbeats 8000000 in
theorem Y5 (gp b1 : Nat) (w : World) (base : Nat) (l : List S67) (A : Option Addr) (c : Nat) (dn : Bool) (fu fa : Int) (i : Nat) (hlt : i < l.length) (hn : l.length ≤ 64) (hb1 : w.heap[b1]? = some (.cells #[.pointer (some ⟨gp, 0, none⟩)] 176 (0, 0)))
  (hp : P6 w base gp (.slice A l.length c) l dn fu fa) (qaJ : base ≤ gp) :
  Calls Tryz.prog 161 #[.int .i64 (i : Int), .pointer (some ⟨b1, 0, none⟩)] w (Done w base gp dn fu fa (l.take i ++ l.drop (i + 1))) := by
 obtain ⟨hp, ho⟩ := hp
 obtain ⟨g, cur, rfl, _, hg, hh, h3, h4, h5, h6⟩ := lT ho (by omega)
 obtain ⟨m, hm⟩ : ∃ m, l.length = i + m + 1 := ⟨l.length - i - 1, by omega⟩
 have s1 : w.cell? ⟨b1, 0, none⟩ = some (.pointer (some ⟨gp, 0, none⟩)) := (aH hb1 0).trans rfl
 have s2 : w.cell? ⟨gp, 0, none⟩ = some (.slice (some ⟨g, 0, none⟩) l.length c) := (aH hp 0).trans rfl
 have ngp : gp ≠ g := fun e => gW hh hp (by decide) e.symm
 have ngb : b1 ≠ g := fun e => gW hh hb1 (by decide) e.symm
 obtain ⟨l3, hl3⟩ : ∃ l3, l3 = l.take i ++ l.drop (i + 1) := ⟨_, rfl⟩
 rw [← hl3]
 have HL3 := aC.mk hl3
 have HM := aC.mk hm
 have HO := aC.mk ho
 have HP := aC.mk hp
 have HH := aC.mk hh
 have HB1 := aC.mk hb1
 have NGP := aC.mk ngp
 have NGB := aC.mk ngb
 have HG := aC.mk hg
 have hi0 : (0 : Int) ≤ (i : Int) := by omega
 have hi1 : (i : Int) ≤ 64 := by omega
 clear hl3 hm ho hp hh hb1 ngp ngb h3 h4 h5 h6 hg hlt
 go_enter Tryz.func161, Tryz.ntmps161
 go_wp2
 refine fO (n := 14) (S := fun w' => w'.cell? ⟨b1, 0, none⟩ = some (.pointer (some ⟨gp, 0, none⟩)) ∧ w'.cell? ⟨gp, 0, none⟩ = some (.slice (some ⟨g, 0, none⟩) l.length c)) (ds := [13]) #[false, false, false, false, false, false, false, false, false, false, false, false, false, false] (by kernel_rfl) rfl rfl ⟨s1, s2⟩ (fun hHeld => ?_)
 refine puS (i := 6) (N := some 9) (v := ?_) (a' := ?_) rfl rfl (by kernel_rfl) (fun _ _ _ h => h) (Or.inl ⟨by rfl, ?_⟩) ?_ ?_
 rotate_left
 ·intro w'
  go_simp
  with_reducible rfl
 rotate_left
 ·simp only [Act.put, zA, zZ, zS, aI, aJ]
  rfl
 refine puS (i := 7) (N := some 10) (v := ?_) (a' := ?_) rfl rfl (by kernel_rfl) (fun _ _ _ h => h) (Or.inl ⟨by rfl, ?_⟩) ?_ ?_
 rotate_left
 ·intro w'
  go_simp
  with_reducible rfl
 rotate_left
 ·simp only [Act.put, zA, zZ, zS, aI, aJ]
  rfl
 refine puS (i := 8) (N := some 11) (v := ?_) (a' := ?_) rfl rfl (by kernel_rfl) (fun _ _ _ h => h) (Or.inl ⟨by rfl, ?_⟩) ?_ ?_
 rotate_left
 ·intro w'
  go_simp
  with_reducible rfl
 rotate_left
 ·simp only [Act.put, zA, zZ, zS, aI, aJ]
  rfl
 refine tkS (i := 0) (N := some 3) (v := ?_) (a' := ?_) rfl rfl (by kernel_rfl) (fun _ _ _ h => h) (Or.inl ⟨by rfl, ?_⟩) hHeld ?_ ?_
 rotate_left
 ·rintro w' ⟨s0, s1⟩
  go_simp
  with_reducible rfl
 rotate_left
 ·simp only [Act.put, zA, zZ, zS, aI, aJ]
  rfl
 refine tkS (i := 1) (N := some 4) (v := ?_) (a' := ?_) rfl rfl (by kernel_rfl) (fun _ _ _ h => h) (Or.inl ⟨by rfl, ?_⟩) hHeld ?_ ?_
 rotate_left
 ·rintro w' ⟨s0, s1⟩
  go_simp
  with_reducible rfl
 rotate_left
 ·simp only [Act.put, zA, zZ, zS, aI, aJ]
  rfl
 refine puS (i := 2) (N := some 5) (v := ?_) (a' := ?_) rfl rfl (by kernel_rfl) (fun _ _ _ h => h) (Or.inl ⟨by rfl, ?_⟩) ?_ ?_
 rotate_left
 ·intro w'
  go_simp
  with_reducible rfl
 rotate_left
 ·simp only [Act.put, zA, zZ, zS, aI, aJ]
  rfl
 refine puS (i := 3) (N := some 6) (v := ?_) (a' := ?_) rfl rfl (by kernel_rfl) (fun _ _ _ h => h) (Or.inl ⟨by rfl, ?_⟩) ?_ ?_
 rotate_left
 ·intro w'
  go_simp
  with_reducible rfl
 rotate_left
 ·simp only [Act.put, zA, zZ, zS, aI, aJ]
  rfl
 refine puS (i := 4) (N := some 7) (v := ?_) (a' := ?_) rfl rfl (by kernel_rfl) (fun _ _ _ h => h) (Or.inl ⟨by rfl, ?_⟩) ?_ ?_
 rotate_left
 ·intro w'
  go_simp
  with_reducible rfl
 rotate_left
 ·simp only [Act.put, zA, zZ, zS, aI, aJ]
  rfl
 refine tkS (i := 5) (N := some 8) (v := ?_) (a' := ?_) rfl rfl (by kernel_rfl) (fun _ _ _ h => h) (Or.inl ⟨by rfl, ?_⟩) hHeld ?_ ?_
 rotate_left
 ·rintro w' ⟨s0, s1⟩
  go_simp
  with_reducible rfl
 rotate_left
 ·simp only [Act.put, zA, zZ, zS, aI, aJ]
  rfl
 refine onS (i := 9) (N := some 12) rfl rfl (by kernel_rfl) (by decide) (fun K hK => ?_)
 refine oC Tryz.func162 (by kernel_rfl) rfl #[.slice (some ⟨g, 0, none⟩) l.length c, .int .i64 (i : Int), .int .i64 (wrap64 ((i : Int) + 1))] (by rfl) rfl rfl (by simp only [List.map_toArray, List.map_cons, List.map_nil]; rfl) ?_
 refine (fB (args' := #[.slice (some ⟨g, 0, none⟩) (i + m + 1) c, .int .i64 (i : Int), .int .i64 ((i : Int) + 1)]) (by rw [HM.out, show wrap64 ((i : Int) + 1) = (i : Int) + 1 by unfold wrap64; omega]) (AO w.drew base l g c i m HM.out hn (Kd.qdj HO.out))).mono ?_
 rintro e w4 ⟨rfl, hR, hB, hk⟩
 rw [← HL3.out] at hR
 have HR4 := aC.mk hR
 have HB4 := aC.mk hB
 have hp4 := (hk gp NGP.out).trans HP.out
 have HK4 := aC.mk hk
 have hfr := aG hp4 0
 have HP4 := aC.mk hp4
 have qg5 := aC.mk ((hk b1 NGB.out).trans HB1.out)
 clear hR hB hk hp4
 refine ⟨_, rfl, ?_⟩
 refine hK.out _ _ ⟨((aH qg5.out 0).trans rfl), ((aH HP4.out 0).trans rfl)⟩ (fun hHeld => ?_)
 clear hK K
 refine fE (a' := ?_) ?_ ?_
 rotate_left
 ·show Act.put _ (some 12) _ = _
  simp only [Act.put, zA, zZ, zS, aI, aJ]
  rfl
 refine puS (i := 10) (N := some 13) (v := ?_) (a' := ?_) rfl rfl (by kernel_rfl) (fun _ _ _ h => h) (Or.inl ⟨by rfl, ?_⟩) ?_ ?_
 rotate_left
 ·intro w'
  go_simp
  with_reducible rfl
 rotate_left
 ·simp only [Act.put, zA, zZ, zS, aI, aJ]
  rfl
 refine puS (i := 11) (N := some 14) (v := ?_) (a' := ?_) rfl rfl (by kernel_rfl) (fun _ _ _ h => h) (Or.inl ⟨by rfl, ?_⟩) ?_ ?_
 rotate_left
 ·intro w'
  go_simp
  with_reducible rfl
 rotate_left
 ·simp only [Act.put, zA, zZ, zS, aI, aJ]
  rfl
 refine puS (i := 12) (N := some 15) (v := ?_) (a' := ?_) rfl rfl (by kernel_rfl) (fun _ _ _ h => h) (Or.inl ⟨by rfl, ?_⟩) ?_ ?_
 rotate_left
 ·intro w'
  go_simp
  with_reducible rfl
 rotate_left
 ·simp only [Act.put, zA, zZ, zS, aI, aJ]
  rfl
 refine laS (i := 13) (N := none) rfl rfl (by kernel_rfl) (by decide) (fun K hK => ?_)
 refine wG (w1 := ?_) (by rfl) rfl ?_ ?_
 rotate_left
 ·go_simp
  rfl
 refine hK.out _ _ ?_
 clear hK K
 refine iT (by kernel_rfl) ?_
 go_end0
 have hlen : l3.length = i + m := by rw [HL3.out, List.length_append, List.length_take, List.length_drop, HM.out]; omega
 refine ⟨rfl, .slice (some ⟨g, 0, none⟩) (i + m) c, fQ (cs := #[.slice (some ⟨g, 0, none⟩) l.length c, .bool dn, .int .i64 fu, .int .i64 fa]) HP4.out 0 _ rfl, R1 (j := 0) HR4.out HP4.out (by decide) _, (QB HB4.out).setCell qaJ _, fun k cs h => ?_⟩
 have hk := gW h HH.out (by decide)
 exact dO (p := ⟨gp, 0, none⟩) ((HK4.out k hk).trans h) (gW h HP.out (by decide)) _
set_option maxHeartbeats 4000000 in
theorem Y6 (W : World) (l : List S67) (dn : Bool) (fu fa : Int) (sd : Int → List S67) (hsd : ∀ (i : Nat), i < l.length → sd (i : Int) = l.take i ++ l.drop (i + 1)) :
  OfV W 118 #[] l dn fu fa false (fun _ b => if b = true then 0 else 7) sd := by
 intro w1 gp v hb hgp hp ho hok
 obtain ⟨A, c, rfl⟩ := Kd.dZ ho
 have hlt : gp < w1.heap.size := gJ hp
 have hle : l.length ≤ 64 := by
  simp only [bI, Bool.and_eq_true, decide_eq_true_eq] at hok
  exact hok.2
 go_enter Tryz.func118, Tryz.ntmps118
 go_wp2
 refine bodyPost_ret (results_cell_row rfl _ _ (w1.heap.size + 1) 179 #[.func (.func 160) #[] #[], .func (.func 161) #[] #[.pointer (some ⟨w1.heap.size, 0, none⟩)], .bool false] (0, 0) _ rfl (new2 w1 _ _) Tryz.underlying179 rfl (by kernel_rfl)) rfl ?_
 refine ⟨_, _, rfl, aQ (aQ (Below.refl _ _) _) _, ⟨160, #[], rfl, P5, fun w3 i b _ _ _ => fB (by simp) ((oO i b w3).mono ?_)⟩, 161, _, rfl, qaR, fun w3 i b dn fu fa hk hil hib hrf hp3 ho3 => ?_⟩
 ·rintro e w4 ⟨rfl, rfl⟩
  exact ⟨rfl, Below.refl _ _⟩
 ·have hbt : b = true := by
   cases b
   ·simp at hrf
   ·rfl
  refine fB (by simp) ((Y5 gp w1.heap.size w3 W.heap.size l A c dn fu fa i (hib hbt) hle (hk _ _ _ (by decide) (by decide) (fun h => by injection h with h; omega) (new1 w1 _ _)) ⟨hp3, ho3⟩ hgp).mono fun e w4 h => ?_)
  rw [hsd i (hib hbt)]
  exact h
def qL.f (bJ : List (S67)) (cZ : Bool) (dA : Int) (dB : Int) (a1 : ByteArray) : Option ((List (S67)) × Bool × Int × Int × Int) := some (dF bJ cZ dA dB a1 false (rfC a1 bJ.length) (fun i => bJ.take i.toNat ++ [(⟨a1, ⟨#[]⟩, 0⟩ : S67)] ++ bJ.drop i.toNat))
set_option maxHeartbeats 4000000 in
theorem qL.calls (dQ : Option Addr) (dR : Nat) (bJ : List (S67)) (cZ : Bool) (dA : Int) (dB : Int) (a1 : ByteArray) (r1 : List (S67)) (r2 : Bool) (r3 : Int) (r4 : Int) (r5 : Int) (w : World) (jY : Kd.C k67 w dQ bJ.length bJ) (lX : bJ.length ≤ dR) (h : qL.f bJ cZ dA dB a1 = some (r1, r2, r3, r4, r5)) :
  Calls Tryz.prog 80 #[.agg #[.slice dQ bJ.length dR, .bool cZ, .int .i64 dA, .int .i64 dB], .string a1] w fun e w' => ∃ v0_ : Value, e = .returned (.tuple #[.agg #[v0_, .bool r2, .int .i64 r3, .int .i64 r4], .int .i64 r5]) ∧ Kd.R k67 67 w' w.heap.size (fun _ => True) v0_ r1 ∧ Below w.heap.size w w' := by
 unfold qL.f at h
 have HE := aC.mk (Option.some.inj h)
 clear h
 have HR := aC.mk jY
 have HC := aC.mk lX
 clear jY lX
 have HB := aC.mk (Below.refl w.heap.size w)
 go_enter Tryz.func80, Tryz.ntmps80
 go_wp2_with (first
 |((with_reducible refine aU (N := 2) rfl ?_);
   refine dL ?hg (N := 2) ?hd (cs := #[.slice dQ bJ.length dR, .bool cZ, .int .i64 dA, .int .i64 dB]) (t := 27) ?hr ?_;
   (case hd => rfl); (case hg => rfl); (case hr => first | (go_simp; done) | (go_simp; rfl));
   intro gd hg w1 hbox hb;
   have n0_ := aC.mk (bF HB.out hb);
   clear HB; have HB := n0_; have BKD := aC.mk hbox; clear n0_ hg hbox hb)
 |((with_reducible refine aU (N := 3) rfl ?_);
   refine dL ?hg (N := 3) ?hd (cs := #[.string a1]) (t := 9) ?hr ?_;
   (case hd => rfl); (case hg => rfl); (case hr => first | (go_simp; done) | (go_simp; rfl));
   intro gn hg w2 hbox hb;
   have n0_ := aC.mk (bF HB.out hb); have n1_ := aC.mk (bG BKD.out hb);
   clear HB BKD; have HB := n0_; have BKD := n1_; have BKN := aC.mk hbox; clear n0_ n1_ hg hbox hb)
 |((with_reducible refine aU (N := 4) rfl ?_);
   refine dL ?hg (N := 4) ?hd (cs := #[.slice none 0 0, .bool false, .int .i64 0, .int .i64 0]) (t := 27) ?hr ?_;
   (case hd => rfl); (case hg => rfl); (case hr => first | (go_simp; done) | (go_simp; rfl));
   intro gr hg w3 hbox hb;
   have n0_ := aC.mk (bF HB.out hb); have n1_ := aC.mk (bG BKD.out hb); have n2_ := aC.mk (bG BKN.out hb);
   have GR := aC.mk (show w.heap.size ≤ gr by rw [hg]; exact HB.out.size);
   clear HB BKD BKN; have HB := n0_; have BKD := n1_; have BKN := n2_; have BKR := aC.mk hbox; clear n0_ n1_ n2_ hg hbox hb;
   have d0 : w3.cell? ⟨gd, 0, none⟩ = some (.slice dQ bJ.length dR) := (aH BKD.out 0).trans rfl;
   have d1 : w3.cell? ⟨gd, 1, none⟩ = some (.bool cZ) := (aH BKD.out 1).trans rfl;
   have d2 : w3.cell? ⟨gd, 2, none⟩ = some (.int .i64 dA) := (aH BKD.out 2).trans rfl;
   have d3 : w3.cell? ⟨gd, 3, none⟩ = some (.int .i64 dB) := (aH BKD.out 3).trans rfl; have dn : w3.cell? ⟨gn, 0, none⟩ = some (.string a1) := (aH BKN.out 0).trans rfl)
 |fail)
 refine ((qJ 124 _ (fun args w => jO Tryz.func124 (by kernel_rfl) (by kernel_rfl) args w) dQ dR bJ cZ dA dB a1 w3 (Kd.fK HR.out HB.out) HC.out false (rfC a1 bJ.length) (fun i => bJ.take i.toNat ++ [(⟨a1, ⟨#[]⟩, 0⟩ : S67)] ++ bJ.drop i.toNat) ?hof).mono ?_)
 case hof => exact Y2 w3 gn bJ cZ dA dB a1 _ (fun i hi => by simp) BKN.out
 rw [HE.out]
 rintro e w4 ⟨v, rfl, ho, hb⟩
 have HO := aC.mk (Kd.sO ho HB.out.size)
 obtain ⟨A4, c4, e4⟩ := Kd.dZ ho
 subst e4
 have n0_ := aC.mk (bF HB.out hb)
 have bk := bG BKR.out hb
 have c0 := (aH bk 0).trans rfl
 have c1 := (aH bk 1).trans rfl
 have c2 := (aH bk 2).trans rfl
 have c3 := (aH bk 3).trans rfl
 have f0 := aG bk 0
 have f1 := aG bk 1
 have f2 := aG bk 2
 have f3 := aG bk 3
 have BK4 := aC.mk bk
 clear ho hb bk HB BKD BKR d0 d1 d2 d3 BKN dn
 go_wp2
 refine bodyPost_ret (fU rfl _ _ gr 27 #[.slice A4 r1.length c4, .bool r2, .int .i64 r3, .int .i64 r4] (0, 0) _ rfl (wL BK4.out _ _ _ _) Tryz.underlying27 rfl (by kernel_rfl)) rfl ?_
 exact ⟨_, rfl, R4 HO.out BK4.out (by decide) _ _ _ _, lF n0_.out GR.out _ _ _ _⟩
def qM.f (bJ : List (S67)) (cZ : Bool) (dA : Int) (dB : Int) (a1 : ByteArray) (a2 : ByteArray) : Option ((List (S67)) × Bool × Int × Int × Int) := some (dF bJ cZ dA dB a1 true (rfW a2 bJ) (fun i => bJ.set i.toNat ⟨(dV bJ i).f0, (dV bJ i).f1 ++ a2, (dV bJ i).f2⟩))
set_option maxHeartbeats 4000000 in
theorem qM.calls (dQ : Option Addr) (dR : Nat) (bJ : List (S67)) (cZ : Bool) (dA : Int) (dB : Int) (a1 : ByteArray) (a2 : ByteArray) (r1 : List (S67)) (r2 : Bool) (r3 : Int) (r4 : Int) (r5 : Int) (w : World) (jY : Kd.C k67 w dQ bJ.length bJ) (lX : bJ.length ≤ dR) (h : qM.f bJ cZ dA dB a1 a2 = some (r1, r2, r3, r4, r5)) :
  Calls Tryz.prog 82 #[.agg #[.slice dQ bJ.length dR, .bool cZ, .int .i64 dA, .int .i64 dB], .string a1, .string a2] w fun e w' => ∃ v0_ : Value, e = .returned (.tuple #[.agg #[v0_, .bool r2, .int .i64 r3, .int .i64 r4], .int .i64 r5]) ∧ Kd.R k67 67 w' w.heap.size (fun _ => True) v0_ r1 ∧ Below w.heap.size w w' := by
 unfold qM.f at h
 have HE := aC.mk (Option.some.inj h)
 clear h
 have HR := aC.mk jY
 have HC := aC.mk lX
 clear jY lX
 have HB := aC.mk (Below.refl w.heap.size w)
 go_enter Tryz.func82, Tryz.ntmps82
 go_wp2_with (first
 |((with_reducible refine aU (N := 3) rfl ?_);
   refine dL ?hg (N := 3) ?hd (cs := #[.slice dQ bJ.length dR, .bool cZ, .int .i64 dA, .int .i64 dB]) (t := 27) ?hr ?_;
   (case hd => rfl); (case hg => rfl); (case hr => first | (go_simp; done) | (go_simp; rfl));
   intro gd hg w1 hbox hb;
   have n0_ := aC.mk (bF HB.out hb);
   clear HB; have HB := n0_; have BKD := aC.mk hbox; clear n0_ hg hbox hb)
 |((with_reducible refine aU (N := 5) rfl ?_);
   refine dL ?hg (N := 5) ?hd (cs := #[.string a2]) (t := 9) ?hr ?_;
   (case hd => rfl); (case hg => rfl); (case hr => first | (go_simp; done) | (go_simp; rfl));
   intro gn hg w2 hbox hb;
   have n0_ := aC.mk (bF HB.out hb); have n1_ := aC.mk (bG BKD.out hb);
   clear HB BKD; have HB := n0_; have BKD := n1_; have BKN := aC.mk hbox; clear n0_ n1_ hg hbox hb)
 |((with_reducible refine aU (N := 6) rfl ?_);
   refine dL ?hg (N := 6) ?hd (cs := #[.slice none 0 0, .bool false, .int .i64 0, .int .i64 0]) (t := 27) ?hr ?_;
   (case hd => rfl); (case hg => rfl); (case hr => first | (go_simp; done) | (go_simp; rfl));
   intro gr hg w3 hbox hb;
   have n0_ := aC.mk (bF HB.out hb); have n1_ := aC.mk (bG BKD.out hb); have n2_ := aC.mk (bG BKN.out hb);
   have GR := aC.mk (show w.heap.size ≤ gr by rw [hg]; exact HB.out.size);
   clear HB BKD BKN; have HB := n0_; have BKD := n1_; have BKN := n2_; have BKR := aC.mk hbox; clear n0_ n1_ n2_ hg hbox hb;
   have d0 : w3.cell? ⟨gd, 0, none⟩ = some (.slice dQ bJ.length dR) := (aH BKD.out 0).trans rfl;
   have d1 : w3.cell? ⟨gd, 1, none⟩ = some (.bool cZ) := (aH BKD.out 1).trans rfl;
   have d2 : w3.cell? ⟨gd, 2, none⟩ = some (.int .i64 dA) := (aH BKD.out 2).trans rfl;
   have d3 : w3.cell? ⟨gd, 3, none⟩ = some (.int .i64 dB) := (aH BKD.out 3).trans rfl; have dn : w3.cell? ⟨gn, 0, none⟩ = some (.string a2) := (aH BKN.out 0).trans rfl)
 |fail)
 refine ((qJ 128 _ (fun args w => jO Tryz.func128 (by kernel_rfl) (by kernel_rfl) args w) dQ dR bJ cZ dA dB a1 w3 (Kd.fK HR.out HB.out) HC.out true (rfW a2 bJ) (fun i => bJ.set i.toNat ⟨(dV bJ i).f0, (dV bJ i).f1 ++ a2, (dV bJ i).f2⟩) ?hof).mono ?_)
 case hof => exact qaO w3 gn bJ cZ dA dB a2 _ (fun i x hx hs => by simp only [Int.toNat_natCast]; rw [gZ hx]) BKN.out
 rw [HE.out]
 rintro e w4 ⟨v, rfl, ho, hb⟩
 have HO := aC.mk (Kd.sO ho HB.out.size)
 obtain ⟨A4, c4, e4⟩ := Kd.dZ ho
 subst e4
 have n0_ := aC.mk (bF HB.out hb)
 have bk := bG BKR.out hb
 have c0 := (aH bk 0).trans rfl
 have c1 := (aH bk 1).trans rfl
 have c2 := (aH bk 2).trans rfl
 have c3 := (aH bk 3).trans rfl
 have f0 := aG bk 0
 have f1 := aG bk 1
 have f2 := aG bk 2
 have f3 := aG bk 3
 have BK4 := aC.mk bk
 clear ho hb bk HB BKD BKR d0 d1 d2 d3 BKN dn
 go_wp2
 refine bodyPost_ret (fU rfl _ _ gr 27 #[.slice A4 r1.length c4, .bool r2, .int .i64 r3, .int .i64 r4] (0, 0) _ rfl (wL BK4.out _ _ _ _) Tryz.underlying27 rfl (by kernel_rfl)) rfl ?_
 exact ⟨_, rfl, R4 HO.out BK4.out (by decide) _ _ _ _, lF n0_.out GR.out _ _ _ _⟩
def wM.f (bJ : List (S67)) (cZ : Bool) (dA : Int) (dB : Int) (a1 : ByteArray) (a2 : Int) : Option ((List (S67)) × Bool × Int × Int × Int) := some (dF bJ cZ dA dB a1 false (rfT a2 bJ) (fun i => bJ.set i.toNat ⟨(dV bJ i).f0, (dV bJ i).f1.extract 0 a2.toNat, a2⟩))
set_option maxHeartbeats 4000000 in
theorem wM.calls (dQ : Option Addr) (dR : Nat) (bJ : List (S67)) (cZ : Bool) (dA : Int) (dB : Int) (a1 : ByteArray) (a2 : Int) (r1 : List (S67)) (r2 : Bool) (r3 : Int) (r4 : Int) (r5 : Int) (w : World) (jY : Kd.C k67 w dQ bJ.length bJ) (lX : bJ.length ≤ dR) (h : wM.f bJ cZ dA dB a1 a2 = some (r1, r2, r3, r4, r5)) :
  Calls Tryz.prog 74 #[.agg #[.slice dQ bJ.length dR, .bool cZ, .int .i64 dA, .int .i64 dB], .string a1, .int .i64 a2] w fun e w' => ∃ v0_ : Value, e = .returned (.tuple #[.agg #[v0_, .bool r2, .int .i64 r3, .int .i64 r4], .int .i64 r5]) ∧ Kd.R k67 67 w' w.heap.size (fun _ => True) v0_ r1 ∧ Below w.heap.size w w' := by
 unfold wM.f at h
 have HE := aC.mk (Option.some.inj h)
 clear h
 have HR := aC.mk jY
 have HC := aC.mk lX
 clear jY lX
 have HB := aC.mk (Below.refl w.heap.size w)
 go_enter Tryz.func74, Tryz.ntmps74
 go_wp2_with (first
 |((with_reducible refine aU (N := 3) rfl ?_);
   refine dL ?hg (N := 3) ?hd (cs := #[.slice dQ bJ.length dR, .bool cZ, .int .i64 dA, .int .i64 dB]) (t := 27) ?hr ?_;
   (case hd => rfl); (case hg => rfl); (case hr => first | (go_simp; done) | (go_simp; rfl));
   intro gd hg w1 hbox hb;
   have n0_ := aC.mk (bF HB.out hb);
   clear HB; have HB := n0_; have BKD := aC.mk hbox; clear n0_ hg hbox hb)
 |((with_reducible refine aU (N := 5) rfl ?_);
   refine dL ?hg (N := 5) ?hd (cs := #[.int .i64 a2]) (t := 3) ?hr ?_;
   (case hd => rfl); (case hg => rfl); (case hr => first | (go_simp; done) | (go_simp; rfl));
   intro gn hg w2 hbox hb;
   have n0_ := aC.mk (bF HB.out hb); have n1_ := aC.mk (bG BKD.out hb);
   clear HB BKD; have HB := n0_; have BKD := n1_; have BKN := aC.mk hbox; clear n0_ n1_ hg hbox hb)
 |((with_reducible refine aU (N := 6) rfl ?_);
   refine dL ?hg (N := 6) ?hd (cs := #[.slice none 0 0, .bool false, .int .i64 0, .int .i64 0]) (t := 27) ?hr ?_;
   (case hd => rfl); (case hg => rfl); (case hr => first | (go_simp; done) | (go_simp; rfl));
   intro gr hg w3 hbox hb;
   have n0_ := aC.mk (bF HB.out hb); have n1_ := aC.mk (bG BKD.out hb); have n2_ := aC.mk (bG BKN.out hb);
   have GR := aC.mk (show w.heap.size ≤ gr by rw [hg]; exact HB.out.size);
   clear HB BKD BKN; have HB := n0_; have BKD := n1_; have BKN := n2_; have BKR := aC.mk hbox; clear n0_ n1_ n2_ hg hbox hb;
   have d0 : w3.cell? ⟨gd, 0, none⟩ = some (.slice dQ bJ.length dR) := (aH BKD.out 0).trans rfl;
   have d1 : w3.cell? ⟨gd, 1, none⟩ = some (.bool cZ) := (aH BKD.out 1).trans rfl;
   have d2 : w3.cell? ⟨gd, 2, none⟩ = some (.int .i64 dA) := (aH BKD.out 2).trans rfl;
   have d3 : w3.cell? ⟨gd, 3, none⟩ = some (.int .i64 dB) := (aH BKD.out 3).trans rfl; have dn : w3.cell? ⟨gn, 0, none⟩ = some (.int .i64 a2) := (aH BKN.out 0).trans rfl)
 |fail)
 refine ((qJ 119 _ (fun args w => jO Tryz.func119 (by kernel_rfl) (by kernel_rfl) args w) dQ dR bJ cZ dA dB a1 w3 (Kd.fK HR.out HB.out) HC.out false (rfT a2 bJ) (fun i => bJ.set i.toNat ⟨(dV bJ i).f0, (dV bJ i).f1.extract 0 a2.toNat, a2⟩) ?hof).mono ?_)
 case hof => exact qdt w3 gn bJ cZ dA dB a2 _ (fun i n x hx he hn => by subst he; simp only [Int.toNat_natCast]; rw [gZ hx]) BKN.out
 rw [HE.out]
 rintro e w4 ⟨v, rfl, ho, hb⟩
 have HO := aC.mk (Kd.sO ho HB.out.size)
 obtain ⟨A4, c4, e4⟩ := Kd.dZ ho
 subst e4
 have n0_ := aC.mk (bF HB.out hb)
 have bk := bG BKR.out hb
 have c0 := (aH bk 0).trans rfl
 have c1 := (aH bk 1).trans rfl
 have c2 := (aH bk 2).trans rfl
 have c3 := (aH bk 3).trans rfl
 have f0 := aG bk 0
 have f1 := aG bk 1
 have f2 := aG bk 2
 have f3 := aG bk 3
 have BK4 := aC.mk bk
 clear ho hb bk HB BKD BKR d0 d1 d2 d3 BKN dn
 go_wp2
 refine bodyPost_ret (fU rfl _ _ gr 27 #[.slice A4 r1.length c4, .bool r2, .int .i64 r3, .int .i64 r4] (0, 0) _ rfl (wL BK4.out _ _ _ _) Tryz.underlying27 rfl (by kernel_rfl)) rfl ?_
 exact ⟨_, rfl, R4 HO.out BK4.out (by decide) _ _ _ _, lF n0_.out GR.out _ _ _ _⟩
def uI.f (bJ : List (S67)) (cZ : Bool) (dA : Int) (dB : Int) (a1 : ByteArray) : Option ((List (S67)) × Bool × Int × Int × Int) := some (dF bJ cZ dA dB a1 false (fun _ b => if b = true then 0 else 7) (fun i => bJ.set i.toNat ⟨(dV bJ i).f0, (dV bJ i).f1, ((dV bJ i).f1.size : Int)⟩))
set_option maxHeartbeats 4000000 in
theorem uI.calls (dQ : Option Addr) (dR : Nat) (bJ : List (S67)) (cZ : Bool) (dA : Int) (dB : Int) (a1 : ByteArray) (r1 : List (S67)) (r2 : Bool) (r3 : Int) (r4 : Int) (r5 : Int) (w : World) (jY : Kd.C k67 w dQ bJ.length bJ) (lX : bJ.length ≤ dR) (h : uI.f bJ cZ dA dB a1 = some (r1, r2, r3, r4, r5)) :
  Calls Tryz.prog 83 #[.agg #[.slice dQ bJ.length dR, .bool cZ, .int .i64 dA, .int .i64 dB], .string a1] w fun e w' => ∃ v0_ : Value, e = .returned (.tuple #[.agg #[v0_, .bool r2, .int .i64 r3, .int .i64 r4], .int .i64 r5]) ∧ Kd.R k67 67 w' w.heap.size (fun _ => True) v0_ r1 ∧ Below w.heap.size w w' := by
 unfold uI.f at h
 have HE := aC.mk (Option.some.inj h)
 clear h
 have HR := aC.mk jY
 have HC := aC.mk lX
 clear jY lX
 have HB := aC.mk (Below.refl w.heap.size w)
 go_enter Tryz.func83, Tryz.ntmps83
 go_wp2_with (first
 |((with_reducible refine aU (N := 2) rfl ?_);
   refine dL ?hg (N := 2) ?hd (cs := #[.slice dQ bJ.length dR, .bool cZ, .int .i64 dA, .int .i64 dB]) (t := 27) ?hr ?_;
   (case hd => rfl); (case hg => rfl); (case hr => first | (go_simp; done) | (go_simp; rfl));
   intro gd hg w1 hbox hb;
   have n0_ := aC.mk (bF HB.out hb);
   clear HB; have HB := n0_; have BKD := aC.mk hbox; clear n0_ hg hbox hb)
 |((with_reducible refine aU (N := 4) rfl ?_);
   refine dL ?hg (N := 4) ?hd (cs := #[.slice none 0 0, .bool false, .int .i64 0, .int .i64 0]) (t := 27) ?hr ?_;
   (case hd => rfl); (case hg => rfl); (case hr => first | (go_simp; done) | (go_simp; rfl));
   intro gr hg w3 hbox hb;
   have n0_ := aC.mk (bF HB.out hb); have n1_ := aC.mk (bG BKD.out hb);
   have GR := aC.mk (show w.heap.size ≤ gr by rw [hg]; exact HB.out.size);
   clear HB BKD; have HB := n0_; have BKD := n1_; have BKR := aC.mk hbox; clear n0_ n1_ hg hbox hb;
   have d0 : w3.cell? ⟨gd, 0, none⟩ = some (.slice dQ bJ.length dR) := (aH BKD.out 0).trans rfl;
   have d1 : w3.cell? ⟨gd, 1, none⟩ = some (.bool cZ) := (aH BKD.out 1).trans rfl;
   have d2 : w3.cell? ⟨gd, 2, none⟩ = some (.int .i64 dA) := (aH BKD.out 2).trans rfl;
   have d3 : w3.cell? ⟨gd, 3, none⟩ = some (.int .i64 dB) := (aH BKD.out 3).trans rfl)
 |fail)
 refine ((qJ 130 _ (fun args w => jO Tryz.func130 (by kernel_rfl) (by kernel_rfl) args w) dQ dR bJ cZ dA dB a1 w3 (Kd.fK HR.out HB.out) HC.out false (fun _ b => if b = true then 0 else 7) (fun i => bJ.set i.toNat ⟨(dV bJ i).f0, (dV bJ i).f1, ((dV bJ i).f1.size : Int)⟩) ?hof).mono ?_)
 case hof => exact qbV w3 bJ cZ dA dB _ (fun i x hx => by simp only [Int.toNat_natCast]; rw [gZ hx])
 rw [HE.out]
 rintro e w4 ⟨v, rfl, ho, hb⟩
 have HO := aC.mk (Kd.sO ho HB.out.size)
 obtain ⟨A4, c4, e4⟩ := Kd.dZ ho
 subst e4
 have n0_ := aC.mk (bF HB.out hb)
 have bk := bG BKR.out hb
 have c0 := (aH bk 0).trans rfl
 have c1 := (aH bk 1).trans rfl
 have c2 := (aH bk 2).trans rfl
 have c3 := (aH bk 3).trans rfl
 have f0 := aG bk 0
 have f1 := aG bk 1
 have f2 := aG bk 2
 have f3 := aG bk 3
 have BK4 := aC.mk bk
 clear ho hb bk HB BKD BKR d0 d1 d2 d3
 go_wp2
 refine bodyPost_ret (fU rfl _ _ gr 27 #[.slice A4 r1.length c4, .bool r2, .int .i64 r3, .int .i64 r4] (0, 0) _ rfl (wL BK4.out _ _ _ _) Tryz.underlying27 rfl (by kernel_rfl)) rfl ?_
 exact ⟨_, rfl, R4 HO.out BK4.out (by decide) _ _ _ _, lF n0_.out GR.out _ _ _ _⟩
def oP.f (bJ : List (S67)) (cZ : Bool) (dA : Int) (dB : Int) (a1 : ByteArray) : Option ((List (S67)) × Bool × Int × Int × Int) := some (dF bJ cZ dA dB a1 false (fun _ b => if b = true then 0 else 7) (fun i => bJ.take i.toNat ++ bJ.drop (i.toNat + 1)))
set_option maxHeartbeats 4000000 in
theorem oP.calls (dQ : Option Addr) (dR : Nat) (bJ : List (S67)) (cZ : Bool) (dA : Int) (dB : Int) (a1 : ByteArray) (r1 : List (S67)) (r2 : Bool) (r3 : Int) (r4 : Int) (r5 : Int) (w : World) (jY : Kd.C k67 w dQ bJ.length bJ) (lX : bJ.length ≤ dR) (h : oP.f bJ cZ dA dB a1 = some (r1, r2, r3, r4, r5)) :
  Calls Tryz.prog 73 #[.agg #[.slice dQ bJ.length dR, .bool cZ, .int .i64 dA, .int .i64 dB], .string a1] w fun e w' => ∃ v0_ : Value, e = .returned (.tuple #[.agg #[v0_, .bool r2, .int .i64 r3, .int .i64 r4], .int .i64 r5]) ∧ Kd.R k67 67 w' w.heap.size (fun _ => True) v0_ r1 ∧ Below w.heap.size w w' := by
 unfold oP.f at h
 have HE := aC.mk (Option.some.inj h)
 clear h
 have HR := aC.mk jY
 have HC := aC.mk lX
 clear jY lX
 have HB := aC.mk (Below.refl w.heap.size w)
 go_enter Tryz.func73, Tryz.ntmps73
 go_wp2_with (first
 |((with_reducible refine aU (N := 2) rfl ?_);
   refine dL ?hg (N := 2) ?hd (cs := #[.slice dQ bJ.length dR, .bool cZ, .int .i64 dA, .int .i64 dB]) (t := 27) ?hr ?_;
   (case hd => rfl); (case hg => rfl); (case hr => first | (go_simp; done) | (go_simp; rfl));
   intro gd hg w1 hbox hb;
   have n0_ := aC.mk (bF HB.out hb);
   clear HB; have HB := n0_; have BKD := aC.mk hbox; clear n0_ hg hbox hb)
 |((with_reducible refine aU (N := 4) rfl ?_);
   refine dL ?hg (N := 4) ?hd (cs := #[.slice none 0 0, .bool false, .int .i64 0, .int .i64 0]) (t := 27) ?hr ?_;
   (case hd => rfl); (case hg => rfl); (case hr => first | (go_simp; done) | (go_simp; rfl));
   intro gr hg w3 hbox hb;
   have n0_ := aC.mk (bF HB.out hb); have n1_ := aC.mk (bG BKD.out hb);
   have GR := aC.mk (show w.heap.size ≤ gr by rw [hg]; exact HB.out.size);
   clear HB BKD; have HB := n0_; have BKD := n1_; have BKR := aC.mk hbox; clear n0_ n1_ hg hbox hb;
   have d0 : w3.cell? ⟨gd, 0, none⟩ = some (.slice dQ bJ.length dR) := (aH BKD.out 0).trans rfl;
   have d1 : w3.cell? ⟨gd, 1, none⟩ = some (.bool cZ) := (aH BKD.out 1).trans rfl;
   have d2 : w3.cell? ⟨gd, 2, none⟩ = some (.int .i64 dA) := (aH BKD.out 2).trans rfl;
   have d3 : w3.cell? ⟨gd, 3, none⟩ = some (.int .i64 dB) := (aH BKD.out 3).trans rfl)
 |fail)
 refine ((qJ 118 _ (fun args w => jO Tryz.func118 (by kernel_rfl) (by kernel_rfl) args w) dQ dR bJ cZ dA dB a1 w3 (Kd.fK HR.out HB.out) HC.out false (fun _ b => if b = true then 0 else 7) (fun i => bJ.take i.toNat ++ bJ.drop (i.toNat + 1)) ?hof).mono ?_)
 case hof => exact Y6 w3 bJ cZ dA dB _ (fun i hi => by simp)
 rw [HE.out]
 rintro e w4 ⟨v, rfl, ho, hb⟩
 have HO := aC.mk (Kd.sO ho HB.out.size)
 obtain ⟨A4, c4, e4⟩ := Kd.dZ ho
 subst e4
 have n0_ := aC.mk (bF HB.out hb)
 have bk := bG BKR.out hb
 have c0 := (aH bk 0).trans rfl
 have c1 := (aH bk 1).trans rfl
 have c2 := (aH bk 2).trans rfl
 have c3 := (aH bk 3).trans rfl
 have f0 := aG bk 0
 have f1 := aG bk 1
 have f2 := aG bk 2
 have f3 := aG bk 3
 have BK4 := aC.mk bk
 clear ho hb bk HB BKD BKR d0 d1 d2 d3
 go_wp2
 refine bodyPost_ret (fU rfl _ _ gr 27 #[.slice A4 r1.length c4, .bool r2, .int .i64 r3, .int .i64 r4] (0, 0) _ rfl (wL BK4.out _ _ _ _) Tryz.underlying27 rfl (by kernel_rfl)) rfl ?_
 exact ⟨_, rfl, R4 HO.out BK4.out (by decide) _ _ _ _, lF n0_.out GR.out _ _ _ _⟩
theorem qbW (k k' : IntKind) (x y : Int) : Builtin.max2 (.int k x) (.int k' y) = pure (.int k (mx x y)) := iD k k' x y
theorem qbX (k k' : IntKind) (x y : Int) : Builtin.min2 (.int k x) (.int k' y) = pure (.int k (mn x y)) := iG k k' x y
attribute [local go_sem] qbW qbX jB jJ
end Go.Proofs.U
namespace Go.Proofs.U
open Go.RowKit Go.Proofs.aA.aK Go.Proofs.aA.aW Go.Proofs.aA.aX
abbrev BL (a b : List UInt8) : Prop := Op.bytesLess a b = true
def names (l : List S67) : List (List UInt8) := l.map fun x => x.f0.toList
def QC (x : S67) : Prop := x.f0.size ≤ 4096 ∧ x.f1.size ≤ 262144 ∧ 0 ≤ x.f2 ∧ x.f2 ≤ (x.f1.size : Int)
theorem CU {a b : List UInt8} (h : BL a b) : a ≠ b := by
 rintro rfl
 rw [BL, rJ] at h
 cases h
theorem EW : ∀ (l : List S67) (last : List UInt8), lQ last l = true ↔ (last :: names l).Pairwise BL ∧ ∀ x ∈ l, QC x
 | [], last => by simp [lQ, names]
 | x :: l, last => by
  have ih := EW l x.f0.toList
  simp only [lQ, Bool.and_eq_true, ih, AA, decide_eq_true_eq]
  constructor
  ·rintro ⟨⟨⟨⟨⟨h1, h2⟩, h3⟩, h4⟩, h5⟩, h6, h7⟩
   refine ⟨?_, ?_⟩
   ·refine List.pairwise_cons.2 ⟨?_, h6⟩
    intro a ha
    rcases List.mem_cons.1 ha with rfl | ha
    ·exact h1
    ·exact wK _ _ _ h1 ((List.pairwise_cons.1 h6).1 a ha)
   ·intro y hy
    rcases List.mem_cons.1 hy with rfl | hy
    ·exact ⟨h2, h3, h4, h5⟩
    ·exact h7 y hy
  ·rintro ⟨h1, h2⟩
   have h3 := List.pairwise_cons.1 h1
   obtain ⟨a, b, c, d⟩ := h2 x (List.mem_cons_self ..)
   exact ⟨⟨⟨⟨⟨h3.1 _ (List.mem_cons_self ..), a⟩, b⟩, c⟩, d⟩, h3.2, fun y hy => h2 y (List.mem_cons_of_mem _ hy)⟩
theorem jM (l : List S67) : bI l = true ↔ (([] : List UInt8) :: names l).Pairwise BL ∧ (∀ x ∈ l, QC x) ∧ l.length ≤ 64 := by
 simp only [bI, Bool.and_eq_true, EW, decide_eq_true_eq, and_assoc]
theorem jZ {l : List S67} (h : bI l = true) : l.length ≤ 64 := ((jM l).1 h).2.2
theorem EX {l : List S67} (h : bI l = true) : (names l).Pairwise BL := (List.pairwise_cons.1 ((jM l).1 h).1).2
theorem o8 {l : List S67} (h : bI l = true) {i j : Nat} {x y : S67} (hij : i < j) (hx : l[i]? = some x) (hy : l[j]? = some y) : BL x.f0.toList y.f0.toList := by
 have hp := EX h
 rw [List.pairwise_iff_getElem] at hp
 have hi : i < l.length := (List.getElem?_eq_some_iff.1 hx).1
 have hj : j < l.length := (List.getElem?_eq_some_iff.1 hy).1
 have := hp i j (by simpa [names] using hi) (by simpa [names] using hj) hij
 simp only [names, List.getElem_map] at this
 rw [(List.getElem?_eq_some_iff.1 hx).2, (List.getElem?_eq_some_iff.1 hy).2] at this
 exact this
theorem TA {l : List S67} (h : bI l = true) {i j : Nat} {x y : S67} (hx : l[i]? = some x) (hy : l[j]? = some y) (e : x.f0.toList = y.f0.toList) : i = j := by
 rcases Nat.lt_trichotomy i j with g | g | g
 ·exact absurd e (CU (o8 h g hx hy))
 ·exact g
 ·exact absurd e.symm (CU (o8 h g hy hx))
theorem QD (x y : ByteArray) : vF x y < 0 ↔ BL x.toList y.toList := by
 unfold vF BL
 split
 ·simp [*, rJ]
 ·split <;> simp [*, rJ]
theorem Y7 (x y : ByteArray) : vF x y = 0 ↔ x.toList = y.toList := by
 unfold vF
 split
 ·rename_i h
  constructor
  ·intro e; omega
  ·intro e; exact absurd e (CU h)
 ·split <;> simp [*]
theorem bsGo_spec {l : List S67} (h : bI l = true) (s : ByteArray) : ∀ (f i j : Nat), i ≤ j → j ≤ l.length → j ≤ i + f →
  (∀ k x, k < i → l[k]? = some x → BL x.f0.toList s.toList) → (∀ k x, j ≤ k → l[k]? = some x → ¬ BL x.f0.toList s.toList) →
  (∀ k x, k < bsGo l s f i j → l[k]? = some x → BL x.f0.toList s.toList) ∧ (∀ k x, bsGo l s f i j ≤ k → l[k]? = some x → ¬ BL x.f0.toList s.toList)
 | 0, i, j, hij, hj, hf, h1, h2 => by
  have : i = j := by omega
  subst this
  exact ⟨h1, h2⟩
 | f + 1, i, j, hij, hj, hf, h1, h2 => by
  unfold bsGo
  split
  ·rename_i hlt
   have hm : (i + j) / 2 < l.length := by omega
   have hx : l[(i + j) / 2]? = some (dV l (((i + j) / 2 : Nat) : Int)) := by
    simp only [dV, Int.toNat_natCast, List.getD_eq_getElem?_getD, List.getElem?_eq_getElem hm]
    rfl
   split
   ·rename_i hc
    rw [QD] at hc
    refine bsGo_spec h s f _ _ (by omega) hj (by omega) ?_ h2
    intro k x hk hkx
    rcases Nat.lt_or_ge k ((i + j) / 2) with g | g
    ·exact wK _ _ _ (o8 h g hkx hx) hc
    ·have : k = (i + j) / 2 := by omega
     subst this
     rw [hx] at hkx
     injection hkx with e
     subst e
     exact hc
   ·rename_i hc
    rw [QD] at hc
    refine bsGo_spec h s f _ _ (by omega) (by omega) (by omega) h1 ?_
    intro k x hk hkx hb
    rcases Nat.lt_or_ge ((i + j) / 2) k with g | g
    ·exact hc (wK _ _ _ (o8 h g hx hkx) hb)
    ·have : k = (i + j) / 2 := by omega
     subst this
     rw [hx] at hkx
     injection hkx with e
     subst e
     exact hc hb
  ·have : i = j := by omega
   subst this
   exact ⟨h1, h2⟩
theorem qcZ {l : List S67} (h : bI l = true) (s : ByteArray) {k : Nat} {x : S67} (hk : k < bsOf l s) (hx : l[k]? = some x) : BL x.f0.toList s.toList :=
 (bsGo_spec h s l.length 0 l.length (by omega) (by omega) (by omega) (fun k x hk => by omega) (fun k x hk hx => by have := (List.getElem?_eq_some_iff.1 hx).1; omega)).1 k x hk hx
theorem qaS {l : List S67} (h : bI l = true) (s : ByteArray) {k : Nat} {x : S67} (hk : bsOf l s ≤ k) (hx : l[k]? = some x) : ¬ BL x.f0.toList s.toList :=
 (bsGo_spec h s l.length 0 l.length (by omega) (by omega) (by omega) (fun k x hk => by omega) (fun k x hk hx => by have := (List.getElem?_eq_some_iff.1 hx).1; omega)).2 k x hk hx
theorem VU (l : List S67) (s : ByteArray) : bsOf l s ≤ l.length := (GV l s _ 0 l.length (Nat.zero_le _)).2
theorem wO (l : List S67) (s : ByteArray) (i : Nat) : lD l s i = true ↔ ∃ x, l[i]? = some x ∧ x.f0.toList = s.toList := by
 simp only [lD, Bool.and_eq_true, decide_eq_true_eq, beq_iff_eq, Y7]
 constructor
 ·rintro ⟨hi, e⟩
  refine ⟨l[i], List.getElem?_eq_getElem hi, ?_⟩
  rwa [gZ (List.getElem?_eq_getElem hi)] at e
 ·rintro ⟨x, hx, e⟩
  exact ⟨(List.getElem?_eq_some_iff.1 hx).1, by rw [gZ hx]; exact e⟩
theorem I4 {l : List S67} (h : bI l = true) (s : ByteArray) {x : S67} (hx : x ∈ l) (e : x.f0.toList = s.toList) : l[bsOf l s]? = some x := by
 obtain ⟨k, hk⟩ := List.getElem?_of_mem hx
 rcases Nat.lt_trichotomy k (bsOf l s) with g | g | g
 ·exact absurd e (CU (qcZ h s g hk))
 ·rw [← g]; exact hk
 ·have hlt : bsOf l s < l.length := by have := (List.getElem?_eq_some_iff.1 hk).1; omega
  have hy := List.getElem?_eq_getElem hlt
  have := o8 h g hy hk
  rw [e] at this
  exact absurd this (qaS h s (Nat.le_refl _) hy)
theorem Y8 {l : List S67} {i : Nat} {x y : S67} (hx : l[i]? = some x) (e : y.f0 = x.f0) : names (l.set i y) = names l := by
 unfold names
 rw [List.map_set]
 apply List.ext_getElem?
 intro j
 rw [List.getElem?_set]
 split
 ·rename_i hj
  subst hj
  have hi := (List.getElem?_eq_some_iff.1 hx).1
  rw [if_pos (by simpa using hi)]
  simp [List.getElem?_map, hx, e]
 ·rfl
theorem Y9 {l : List S67} (h : bI l = true) {i : Nat} {x y : S67} (hx : l[i]? = some x) (e : y.f0 = x.f0) (hy : QC y) : bI (l.set i y) = true := by
 have h' := (jM l).1 h
 refine (jM _).2 ⟨by rw [Y8 hx e]; exact h'.1, fun z hz => ?_, by rw [List.length_set]; exact h'.2.2⟩
 rcases List.mem_or_eq_of_mem_set hz with hz | rfl
 ·exact h'.2.1 z hz
 ·exact hy
theorem mem_set {l : List S67} (h : bI l = true) {i : Nat} {x y z : S67} (hx : l[i]? = some x) (e : y.f0 = x.f0) (hz : z.f0.toList ≠ x.f0.toList) : z ∈ l.set i y ↔ z ∈ l := by
 constructor
 ·intro g
  rcases List.mem_or_eq_of_mem_set g with g | rfl
  ·exact g
  ·exact absurd (by rw [e]) hz
 ·intro g
  obtain ⟨k, hk⟩ := List.getElem?_of_mem g
  have : i ≠ k := by
   rintro rfl
   rw [hx] at hk
   injection hk with hk
   exact hz (by rw [hk])
  exact List.mem_of_getElem? (i := k) (by rw [List.getElem?_set_ne this]; exact hk)
theorem ND {l : List S67} {i : Nat} {x y : S67} (hx : l[i]? = some x) : y ∈ l.set i y :=
 List.mem_of_getElem? (i := i) (by rw [List.getElem?_set_self (List.getElem?_eq_some_iff.1 hx).1])
theorem rO {l : List S67} (h : bI l = true) (i : Nat) : bI (l.take i ++ l.drop (i + 1)) = true := by
 have h' := (jM l).1 h
 have hs : (l.take i ++ l.drop (i + 1)).Sublist l := by
  conv => rhs; rw [← List.take_append_drop i l]
  exact List.Sublist.append (List.Sublist.refl _) (by rw [← List.drop_drop]; exact List.drop_sublist _ _)
 refine (jM _).2 ⟨h'.1.sublist ((hs.map _).cons_cons _), fun z hz => h'.2.1 z (hs.subset hz), Nat.le_trans hs.length_le h'.2.2⟩
theorem qbY {l : List S67} (h : bI l = true) {i : Nat} {x z : S67} (hx : l[i]? = some x) : z ∈ l.take i ++ l.drop (i + 1) ↔ z ∈ l ∧ z.f0.toList ≠ x.f0.toList := by
 constructor
 ·intro g
  rcases List.mem_append.1 g with g | g
  ·obtain ⟨k, hk⟩ := List.getElem?_of_mem g
   have hki : k < i := by
    have := (List.getElem?_eq_some_iff.1 hk).1
    simp only [List.length_take] at this
    omega
   rw [List.getElem?_take_of_lt hki] at hk
   exact ⟨List.mem_of_getElem? hk, CU (o8 h hki hk hx)⟩
  ·obtain ⟨k, hk⟩ := List.getElem?_of_mem g
   rw [List.getElem?_drop] at hk
   exact ⟨List.mem_of_getElem? hk, fun e => CU (o8 h (show i < i + 1 + k by omega) hx hk) e.symm⟩
 ·rintro ⟨g, hz⟩
  obtain ⟨k, hk⟩ := List.getElem?_of_mem g
  rcases Nat.lt_trichotomy k i with c | c | c
  ·exact List.mem_append.2 (.inl (List.mem_of_getElem? (i := k) (by rw [List.getElem?_take_of_lt c]; exact hk)))
  ·subst c
   rw [hx] at hk
   injection hk with hk
   exact absurd (by rw [hk]) hz
  ·exact List.mem_append.2 (.inr (List.mem_of_getElem? (i := k - (i + 1)) (by rw [List.getElem?_drop, show i + 1 + (k - (i + 1)) = k by omega]; exact hk)))
theorem GX {l : List S67} (i : Nat) (y z : S67) : z ∈ l.take i ++ [y] ++ l.drop i ↔ z = y ∨ z ∈ l := by
 conv => rhs; rw [← List.take_append_drop i l]
 simp only [List.mem_append, List.mem_singleton]
 constructor
 ·rintro ((h | h) | h)
  ·exact .inr (.inl h)
  ·exact .inl h
  ·exact .inr (.inr h)
 ·rintro (h | h | h)
  ·exact .inl (.inr h)
  ·exact .inl (.inl h)
  ·exact .inr h
theorem ZA {l : List S67} (h : bI l = true) {s : ByteArray} {y : S67} (hi : lD l s (bsOf l s) = false) (hy : QC y) (hn : y.f0 = s) (hne : s.toList ≠ []) (hlen : l.length < 64) : bI (l.take (bsOf l s) ++ [y] ++ l.drop (bsOf l s)) = true := by
 have h' := (jM l).1 h
 have hp := List.pairwise_cons.1 h'.1
 refine (jM _).2 ⟨List.pairwise_cons.2 ⟨?_, ?_⟩, ?_, ?_⟩
 ·intro a ha
  simp only [names, List.map_append, List.mem_append, List.map_cons, List.map_nil, List.mem_singleton] at ha
  rcases ha with (ha | rfl) | ha
  ·rw [List.map_take] at ha
   exact hp.1 a (List.mem_of_mem_take ha)
  ·rw [hn]
   rcases CQ [] s.toList with g | g | g
   ·exact g
   ·exact absurd g.symm hne
   ·revert g; cases s.toList <;> simp [Op.bytesLess]
  ·rw [List.map_drop] at ha
   exact hp.1 a (List.mem_of_mem_drop ha)
 ·simp only [names, List.map_append, List.map_cons, List.map_nil]
  rw [List.append_assoc, List.pairwise_append, List.pairwise_append, List.map_take, List.map_drop]
  have hlo : ∀ a ∈ (names l).take (bsOf l s), BL a s.toList := by
   intro a ha
   obtain ⟨k, hk⟩ := List.getElem?_of_mem ha
   have hki : k < bsOf l s := by
    have := (List.getElem?_eq_some_iff.1 hk).1
    simp only [List.length_take] at this
    omega
   rw [List.getElem?_take_of_lt hki, names, List.getElem?_map] at hk
   cases e : l[k]? with
   | none => rw [e] at hk; cases hk
   | some x =>
    rw [e] at hk
    injection hk with hk
    subst hk
    exact qcZ h s hki e
  have hhi : ∀ a ∈ (names l).drop (bsOf l s), BL s.toList a := by
   intro a ha
   obtain ⟨k, hk⟩ := List.getElem?_of_mem ha
   rw [List.getElem?_drop, names, List.getElem?_map] at hk
   cases e : l[bsOf l s + k]? with
   | none => rw [e] at hk; cases hk
   | some x =>
    rw [e] at hk
    injection hk with hk
    subst hk
    rcases CQ s.toList x.f0.toList with g | g | g
    ·exact g
    ·have hb := I4 h s (List.mem_of_getElem? e) g.symm
     rw [(wO _ _ _).2 ⟨x, hb, g.symm⟩] at hi
     cases hi
    ·exact absurd g (qaS h s (by omega) e)
  refine ⟨hp.2.sublist (List.take_sublist _ _), ⟨List.pairwise_singleton _ _, hp.2.sublist (List.drop_sublist _ _), ?_⟩, ?_⟩
  ·intro a ha b hb
   rw [List.mem_singleton.1 ha, hn]
   exact hhi b hb
  ·intro a ha b hb
   rcases List.mem_append.1 hb with hb | hb
   ·rw [List.mem_singleton.1 hb, hn]
    exact hlo a ha
   ·exact wK _ _ _ (hlo a ha) (hhi b hb)
 ·intro z hz
  rcases (GX _ _ _).1 hz with rfl | hz
  ·exact hy
  ·exact h'.2.1 z hz
 ·simp only [List.length_append, List.length_take, List.length_drop, List.length_singleton]
  have := VU l s
  omega
attribute [local go_sem] iD iG jB jJ gU gV iP iQ
end Go.Proofs.U
namespace Go.Proofs.U
open Go.RowKit Go.Proofs.aA.aK Go.Proofs.aA.aW Go.Proofs.aA.aX
attribute [local go_sem] iD iG jB jJ gU gV iP iQ
end Go.Proofs.U
namespace Go.Proofs.U
open Go.RowKit Go.Proofs.aA.aK Go.Proofs.aA.aW Go.Proofs.aA.aX
def iU (l : List S67) (dn : Bool) (fu fa : Int) (s d : ByteArray) : List S67 × Bool × Int × Int × Int := dF l dn fu fa s true (rfW d l) (fun i => l.set i.toNat ⟨(dV l i).f0, (dV l i).f1 ++ d, (dV l i).f2⟩)
def CV (l : List S67) (dn : Bool) (fu fa : Int) (s : ByteArray) (n : Int) : List S67 × Bool × Int × Int × Int := dF l dn fu fa s false (rfT n l) (fun i => l.set i.toNat ⟨(dV l i).f0, (dV l i).f1.extract 0 n.toNat, n⟩)
def gX (l : List S67) (dn : Bool) (fu fa : Int) (s : ByteArray) : List S67 × Bool × Int × Int × Int := dF l dn fu fa s false (fun _ b => if b = true then 0 else 7) (fun i => l.take i.toNat ++ l.drop (i.toNat + 1))
def qY (l : List S67) (dn : Bool) (fu fa : Int) (s : ByteArray) : List S67 × Bool × Int × Int × Int := dF l dn fu fa s false (fun _ b => if b = true then 0 else 7) (fun i => l.set i.toNat ⟨(dV l i).f0, (dV l i).f1, ((dV l i).f1.size : Int)⟩)
def jW (l : List S67) (dn : Bool) (fu fa : Int) (s : ByteArray) : List S67 × Bool × Int × Int × Int := dF l dn fu fa s false (rfC s l.length) (fun i => l.take i.toNat ++ [(⟨s, ⟨#[]⟩, 0⟩ : S67)] ++ l.drop i.toNat)
theorem I5 (l : List S67) (dn : Bool) (fu fa : Int) (s d : ByteArray) : qM.f l dn fu fa s d = some (iU l dn fu fa s d) := rfl
theorem QE (l : List S67) (dn : Bool) (fu fa : Int) (s : ByteArray) (n : Int) : wM.f l dn fu fa s n = some (CV l dn fu fa s n) := rfl
theorem wP (l : List S67) (dn : Bool) (fu fa : Int) (s : ByteArray) : oP.f l dn fu fa s = some (gX l dn fu fa s) := rfl
theorem NG (l : List S67) (dn : Bool) (fu fa : Int) (s : ByteArray) : uI.f l dn fu fa s = some (qY l dn fu fa s) := rfl
theorem I7 (l : List S67) (dn : Bool) (fu fa : Int) (s : ByteArray) : qL.f l dn fu fa s = some (jW l dn fu fa s) := rfl
theorem qC {l : List S67} (h : bI l = true) (s : ByteArray) (wr : Bool) (rf : Int → Bool → Int) (df : Int → List S67) :
  dF l false (-1) (-1) s wr rf df = if rf (bsOf l s) (lD l s (bsOf l s)) = 0 then (df (bsOf l s), false, -1, -1, 0) else (l, false, -1, -1, rf (bsOf l s) (lD l s (bsOf l s))) := by
 simp [dF, h]
end Go.Proofs.U
