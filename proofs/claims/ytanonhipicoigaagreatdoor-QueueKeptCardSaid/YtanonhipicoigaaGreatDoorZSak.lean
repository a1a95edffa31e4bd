import Derived.Test.YtanonhipicoigaaGreatDoorZSaj
import Derived.RegionTactic
import Derived.BigRegion
import Derived.Deep.RegionLaw
import Derived.Lib.SliceRun
import Derived.Test.YtanonhipicoigaaGreatDoorZSag
set_option linter.unusedVariables false
set_option linter.unusedSimpArgs false
set_option maxRecDepth 100000
namespace Go.Proofs.U
open Go.RowKit Go.Proofs.YW.PrintWords Go.Proofs.YW.PrintLast Go.Proofs.YW.PrintMore
theorem qa9 : ∀ (last : List UInt8) (l : List S67) (i : Nat) (x : S67), oH last l = true → l[i]? = some x → x.f0.size ≤ 4096 ∧ x.f1.size ≤ 262144 ∧ 0 ≤ x.f2 ∧ x.f2 ≤ (x.f1.size : Int)
 | _, [], i, x, _, h => by simp at h
 | last, y :: l, 0, x, hk, h => by
  obtain rfl : y = x := by simpa using h
  simp only [oH, zX, Bool.and_eq_true, decide_eq_true_eq] at hk
  exact ⟨hk.1.1.1.1.2, hk.1.1.1.2, hk.1.1.2, hk.1.2⟩
 | last, y :: l, i + 1, x, hk, h => by
  simp only [oH, Bool.and_eq_true] at hk
  exact qa9 y.f0.toList l i x hk.2 (by simpa using h)
theorem o8 {l : List S67} (h : bF l = true) {i : Nat} {x : S67} (hx : l[i]? = some x) : x.f0.size ≤ 4096 ∧ x.f1.size ≤ 262144 ∧ 0 ≤ x.f2 ∧ x.f2 ≤ (x.f1.size : Int) := by
 simp only [bF, Bool.and_eq_true] at h
 exact qa9 [] l i x h.1 hx
theorem iC {l : List S67} {i : Nat} {x : S67} (hx : l[i]? = some x) : dX l (i : Int) = x := by
 simp [dX, List.getD, hx]
def rfW (data : ByteArray) (l : List S67) (i : Int) (b : Bool) : Int := if b = true then (if 262144 - ((dX l i).f1.size : Int) < (data.size : Int) then 8 else 0) else 7
theorem qba : Enters 175 := fun args w => jS Tryz.func175 (by kernel_rfl) (by kernel_rfl) args w
theorem qbb : Enters 176 := fun args w => jS Tryz.func176 (by kernel_rfl) (by kernel_rfl) args w
set_option maxHeartbeats 4000000 in
theorem OL (w : World) (gp b1 b2 g : Nat) (cur : Array Value) (data : ByteArray) (l : List S67) (c : Nat) (i : Nat) (x : S67) (hx : l[i]? = some x) (hsz : x.f1.size ≤ 262144) (hn : l.length ≤ 64) (s3 : w.cell? ⟨b2, 0, none⟩ = some (.string data)) (s1 : w.cell? ⟨b1, 0, none⟩ = some (.pointer (some ⟨gp, 0, none⟩)))
  (s2 : w.cell? ⟨gp, 0, none⟩ = some (.slice (some ⟨g, 0, none⟩) l.length c)) (hh : w.heap[g]? = some (.cells cur 67 (0, 0))) (h6 : cur.toList.take (l.length * 3) = cellsOf l) :
  Calls Tryz.prog 175 #[.int .i64 (i : Int), .bool true, .pointer (some ⟨b2, 0, none⟩), .pointer (some ⟨b1, 0, none⟩)] w fun e w' => e = .returned (.int .i64 (rfW data l i true)) ∧ Below w.heap.size w w' := by
 have hlt : i < l.length := (List.getElem?_eq_some_iff.1 hx).1
 obtain ⟨e0, e1, e2⟩ := iZ l i x hx
 have s4 : w.cell? ⟨g, i * 3 + 1, none⟩ = some (.string x.f1) := kC hh h6 e1
 have hi0 : (0 : Int) ≤ (i : Int) := by omega
 have hi1 : (i : Int) < (l.length : Int) := by omega
 have hz0 : (x.f1.size : Int) ≤ 262144 := by omega
 obtain ⟨R, hR⟩ : ∃ R, R = rfW data l i true := ⟨_, rfl⟩
 rw [← hR]
 have HR : aA (R = if 262144 - (x.f1.size : Int) < (data.size : Int) then 8 else 0) := ⟨by rw [hR, rfW, if_pos rfl, iC hx]⟩
 clear hR hx hh h6 e0 e1 e2 hsz
 go_enter Tryz.func175, Tryz.ntmps175
 go_wp2_with (go_at_call 160; refine (o7 _ _ _).mono ?_; rintro e w' ⟨rfl, rfl⟩)
 refine gX (n := 14) (S := fun w' => w'.cell? ⟨b2, 0, none⟩ = some (.string data) ∧ w'.cell? ⟨b1, 0, none⟩ = some (.pointer (some ⟨gp, 0, none⟩)) ∧ w'.cell? ⟨gp, 0, none⟩ = some (.slice (some ⟨g, 0, none⟩) l.length c) ∧ w'.cell? ⟨g, i * 3 + 1, none⟩ = some (.string x.f1)) (ds := []) #[false, false, false, false, false, false, false, false, false, false, false, false, false, false] (by kernel_rfl) rfl rfl ⟨s3, s1, s2, s4⟩ (fun hHeld => ?_)
 refine puS (i := 7) (N := some 21) (v := ?_) (a' := ?_) rfl rfl (by kernel_rfl) (fun _ _ _ h => h) (Or.inl ⟨by rfl, ?_⟩) ?_ ?_
 rotate_left
 ·intro w'
  go_simp
  with_reducible rfl
 rotate_left
 ·simp only [Act.put, zA, zZ, zS, aH, aI]
  rfl
 refine tkS (i := 0) (N := some 14) (v := ?_) (a' := ?_) rfl rfl (by kernel_rfl) (fun _ _ _ h => h) (Or.inl ⟨by rfl, ?_⟩) hHeld ?_ ?_
 rotate_left
 ·rintro w' ⟨s0, s1, s2, s3⟩
  go_simp
  with_reducible rfl
 rotate_left
 ·simp only [Act.put, zA, zZ, zS, aH, aI]
  rfl
 refine puS (i := 1) (N := some 15) (v := ?_) (a' := ?_) rfl rfl (by kernel_rfl) (fun _ _ _ h => h) (Or.inl ⟨by rfl, ?_⟩) ?_ ?_
 rotate_left
 ·intro w'
  go_simp
  with_reducible rfl
 rotate_left
 ·simp only [Act.put, zA, zZ, zS, aH, aI]
  rfl
 refine tkS (i := 2) (N := some 16) (v := ?_) (a' := ?_) rfl rfl (by kernel_rfl) (fun _ _ _ h => h) (Or.inl ⟨by rfl, ?_⟩) hHeld ?_ ?_
 rotate_left
 ·rintro w' ⟨s0, s1, s2, s3⟩
  go_simp
  with_reducible rfl
 rotate_left
 ·simp only [Act.put, zA, zZ, zS, aH, aI]
  rfl
 refine puS (i := 3) (N := some 17) (v := ?_) (a' := ?_) rfl rfl (by kernel_rfl) (fun _ _ _ h => h) (Or.inl ⟨by rfl, ?_⟩) ?_ ?_
 rotate_left
 ·intro w'
  go_simp
  with_reducible rfl
 rotate_left
 ·simp only [Act.put, zA, zZ, zS, aH, aI]
  rfl
 refine puS (i := 4) (N := some 18) (v := ?_) (a' := ?_) rfl rfl (by kernel_rfl) (fun _ _ _ h => h) (Or.inl ⟨by rfl, ?_⟩) ?_ ?_
 rotate_left
 ·intro w'
  go_simp
  with_reducible rfl
 rotate_left
 ·simp only [Act.put, zA, zZ, zS, aH, aI]
  rfl
 refine puS (i := 5) (N := some 19) (v := ?_) (a' := ?_) rfl rfl (by kernel_rfl) (fun _ _ _ h => h) (Or.inl ⟨by rfl, ?_⟩) ?_ ?_
 rotate_left
 ·intro w'
  go_simp
  with_reducible rfl
 rotate_left
 ·simp only [Act.put, zA, zZ, zS, aH, aI]
  rfl
 refine tkS (i := 6) (N := some 20) (v := ?_) (a' := ?_) rfl rfl (by kernel_rfl) (fun _ _ _ h => h) (Or.inl ⟨by rfl, ?_⟩) hHeld ?_ ?_
 rotate_left
 ·rintro w' ⟨s0, s1, s2, s3⟩
  go_simp
  with_reducible rfl
 rotate_left
 ·simp only [Act.put, zA, zZ, zS, aH, aI]
  rfl
 refine puS (i := 8) (N := some 22) (v := ?_) (a' := ?_) rfl rfl (by kernel_rfl) (fun _ _ _ h => h) (Or.inl ⟨by rfl, ?_⟩) ?_ ?_
 rotate_left
 ·intro w'
  go_simp
  with_reducible rfl
 rotate_left
 ·simp only [Act.put, zA, zZ, zS, aH, aI]
  rfl
 refine puS (i := 9) (N := some 23) (v := ?_) (a' := ?_) rfl rfl (by kernel_rfl) (fun _ _ _ h => h) (Or.inl ⟨by rfl, ?_⟩) ?_ ?_
 rotate_left
 ·intro w'
  go_simp
  with_reducible rfl
 rotate_left
 ·simp only [Act.put, zA, zZ, zS, aH, aI]
  rfl
 refine tkS (i := 10) (N := some 24) (v := ?_) (a' := ?_) rfl rfl (by kernel_rfl) (fun _ _ _ h => h) (Or.inl ⟨by rfl, ?_⟩) hHeld ?_ ?_
 rotate_left
 ·rintro w' ⟨s0, s1, s2, s3⟩
  go_simp
  with_reducible rfl
 rotate_left
 ·simp only [Act.put, zA, zZ, zS, aH, aI]
  rfl
 refine puS (i := 11) (N := some 25) (v := ?_) (a' := ?_) rfl rfl (by kernel_rfl) (fun _ _ _ h => h) (Or.inl ⟨by rfl, ?_⟩) ?_ ?_
 rotate_left
 ·intro w'
  go_simp
  with_reducible rfl
 rotate_left
 ·simp only [Act.put, zA, zZ, zS, aH, aI]
  rfl
 refine puS (i := 12) (N := some 26) (v := ?_) (a' := ?_) rfl rfl (by kernel_rfl) (fun _ _ _ h => h) (Or.inl ⟨by rfl, ?_⟩) ?_ ?_
 rotate_left
 ·intro w'
  go_simp
  with_reducible rfl
 rotate_left
 ·simp only [Act.put, zA, zZ, zS, aH, aI]
  rfl
 refine puS (i := 13) (N := some 27) (v := ?_) (a' := ?_) rfl rfl (by kernel_rfl) (fun _ _ _ h => h) (Or.inl ⟨by rfl, ?_⟩) ?_ ?_
 rotate_left
 ·intro w'
  go_simp
  with_reducible rfl
 rotate_left
 ·simp only [Act.put, zA, zZ, zS, aH, aI]
  rfl
 refine jM (by kernel_rfl) ?_
 have e : wrap64 (262144 - (x.f1.size : Int)) = 262144 - (x.f1.size : Int) := by unfold wrap64; omega
 rw [e]
 clear e
 by_cases h : 262144 - (x.f1.size : Int) < (data.size : Int)
 ·have HE : aA (R = 8) := ⟨by rw [HR.out, if_pos h]⟩
  have hd : decide (262144 - (x.f1.size : Int) < (data.size : Int)) = true := by simpa using h
  rw [hd]
  clear h hd
  go_wp2
  go_ret
  exact ⟨by rw [HE.out]; rfl, fH (Below.refl _ _)⟩
 ·have HE : aA (R = 0) := ⟨by rw [HR.out, if_neg h]⟩
  have hd : decide (262144 - (x.f1.size : Int) < (data.size : Int)) = false := by simpa using h
  rw [hd]
  clear h hd
  go_wp2
  go_ret
  exact ⟨by rw [HE.out]; rfl, fH (Below.refl _ _)⟩
theorem MF (w : World) (v2 v1 : Value) (data : ByteArray) (l : List S67) (i : Int) :
  Calls Tryz.prog 175 #[.int .i64 i, .bool false, v2, v1] w fun e w' => e = .returned (.int .i64 (rfW data l i false)) ∧ w = w' := by
 go_enter Tryz.func175, Tryz.ntmps175
 go_wp2_with (go_at_call 160; refine (o7 _ _ _).mono ?_; rintro e w' ⟨rfl, rfl⟩)
 go_ret
 exact ⟨rfl, rfl⟩
set_option maxHeartbeats 4000000 in
theorem qbc (gp b1 b2 : Nat) (w : World) (base : Nat) (l : List S67) (data : ByteArray) (A : Option Addr) (c : Nat) (dn : Bool) (fu fa : Int) (i : Nat) (x : S67) (hx : l[i]? = some x) (hsum : x.f1.size + data.size ≤ 262144) (hb1 : w.heap[b1]? = some (.cells #[.pointer (some ⟨gp, 0, none⟩)] 176 (0, 0)))
  (hb2 : w.heap[b2]? = some (.cells #[.string data] 9 (0, 0))) (hp : RH w base gp (.slice A l.length c) l dn fu fa) :
  Calls Tryz.prog 176 #[.int .i64 (i : Int), .pointer (some ⟨b1, 0, none⟩), .pointer (some ⟨b2, 0, none⟩)] w (Done w base gp dn fu fa (l.set i ⟨x.f0, x.f1 ++ data, x.f2⟩)) := by
 obtain ⟨hp, ho⟩ := hp
 have hlt : i < l.length := (List.getElem?_eq_some_iff.1 hx).1
 obtain ⟨g, cur, rfl, _, hg, hh, h3, h4, h5, h6⟩ := lW ho (by omega)
 obtain ⟨e0, e1, e2⟩ := iZ l i x hx
 have s1 : w.cell? ⟨b1, 0, none⟩ = some (.pointer (some ⟨gp, 0, none⟩)) := (aG hb1 0).trans rfl
 have s2 : w.cell? ⟨gp, 0, none⟩ = some (.slice (some ⟨g, 0, none⟩) l.length c) := (aG hp 0).trans rfl
 have s3 : w.cell? ⟨b2, 0, none⟩ = some (.string data) := (aG hb2 0).trans rfl
 have s4 : w.cell? ⟨g, i * 3 + 1, none⟩ = some (.string x.f1) := kC hh h6 e1
 have s5 := aC hh (i * 3 + 1)
 have ngp : g ≠ gp := gB hh hp (by decide)
 have HX := aA.mk hx
 have HO := aA.mk ho
 have HP := aA.mk hp
 have HH := aA.mk hh
 have NGP := aA.mk ngp
 have HG := aA.mk hg
 have hi0 : (0 : Int) ≤ (i : Int) := by omega
 have hi1 : (i : Int) < (l.length : Int) := by omega
 have hs9 : (x.f1.size : Int) + (data.size : Int) ≤ 9223372036854775807 := by omega
 have hs8 : ¬ 9223372036854775807 < x.f1.size + data.size := by omega
 clear hx ho hp hh ngp h3 h4 h5 h6 e0 e1 e2 hb1 hg hb2
 go_enter Tryz.func176, Tryz.ntmps176
 go_wp2
 refine gX (n := 14) (S := fun w' => w'.cell? ⟨b1, 0, none⟩ = some (.pointer (some ⟨gp, 0, none⟩)) ∧ w'.cell? ⟨b2, 0, none⟩ = some (.string data) ∧ w'.cell? ⟨gp, 0, none⟩ = some (.slice (some ⟨g, 0, none⟩) l.length c) ∧ w'.cell? ⟨g, i * 3 + 1, none⟩ = some (.string x.f1)) (ds := [13]) #[false, false, false, false, false, false, false, false, false, false, false, false, false, false] (by kernel_rfl) rfl rfl ⟨s1, s3, s2, s4⟩ (fun hHeld => ?_)
 refine puS (i := 5) (N := some 9) (v := ?_) (a' := ?_) rfl rfl (by kernel_rfl) (fun _ _ _ h => h) (Or.inl ⟨by rfl, ?_⟩) ?_ ?_
 rotate_left
 ·intro w'
  go_simp
  with_reducible rfl
 rotate_left
 ·simp only [Act.put, zA, zZ, zS, aH, aI]
  rfl
 refine tkS (i := 0) (N := some 4) (v := ?_) (a' := ?_) rfl rfl (by kernel_rfl) (fun _ _ _ h => h) (Or.inl ⟨by rfl, ?_⟩) hHeld ?_ ?_
 rotate_left
 ·rintro w' ⟨s0, s1, s2, s3⟩
  go_simp
  with_reducible rfl
 rotate_left
 ·simp only [Act.put, zA, zZ, zS, aH, aI]
  rfl
 refine puS (i := 1) (N := some 5) (v := ?_) (a' := ?_) rfl rfl (by kernel_rfl) (fun _ _ _ h => h) (Or.inl ⟨by rfl, ?_⟩) ?_ ?_
 rotate_left
 ·intro w'
  go_simp
  with_reducible rfl
 rotate_left
 ·simp only [Act.put, zA, zZ, zS, aH, aI]
  rfl
 refine puS (i := 2) (N := some 6) (v := ?_) (a' := ?_) rfl rfl (by kernel_rfl) (fun _ _ _ h => h) (Or.inl ⟨by rfl, ?_⟩) ?_ ?_
 rotate_left
 ·intro w'
  go_simp
  with_reducible rfl
 rotate_left
 ·simp only [Act.put, zA, zZ, zS, aH, aI]
  rfl
 refine puS (i := 3) (N := some 7) (v := ?_) (a' := ?_) rfl rfl (by kernel_rfl) (fun _ _ _ h => h) (Or.inl ⟨by rfl, ?_⟩) ?_ ?_
 rotate_left
 ·intro w'
  go_simp
  with_reducible rfl
 rotate_left
 ·simp only [Act.put, zA, zZ, zS, aH, aI]
  rfl
 refine tkS (i := 4) (N := some 8) (v := ?_) (a' := ?_) rfl rfl (by kernel_rfl) (fun _ _ _ h => h) (Or.inl ⟨by rfl, ?_⟩) hHeld ?_ ?_
 rotate_left
 ·rintro w' ⟨s0, s1, s2, s3⟩
  go_simp
  with_reducible rfl
 rotate_left
 ·simp only [Act.put, zA, zZ, zS, aH, aI]
  rfl
 refine puS (i := 6) (N := some 10) (v := ?_) (a' := ?_) rfl rfl (by kernel_rfl) (fun _ _ _ h => h) (Or.inl ⟨by rfl, ?_⟩) ?_ ?_
 rotate_left
 ·intro w'
  go_simp
  with_reducible rfl
 rotate_left
 ·simp only [Act.put, zA, zZ, zS, aH, aI]
  rfl
 refine puS (i := 7) (N := some 11) (v := ?_) (a' := ?_) rfl rfl (by kernel_rfl) (fun _ _ _ h => h) (Or.inl ⟨by rfl, ?_⟩) ?_ ?_
 rotate_left
 ·intro w'
  go_simp
  with_reducible rfl
 rotate_left
 ·simp only [Act.put, zA, zZ, zS, aH, aI]
  rfl
 refine tkS (i := 8) (N := some 12) (v := ?_) (a' := ?_) rfl rfl (by kernel_rfl) (fun _ _ _ h => h) (Or.inl ⟨by rfl, ?_⟩) hHeld ?_ ?_
 rotate_left
 ·rintro w' ⟨s0, s1, s2, s3⟩
  go_simp
  with_reducible rfl
 rotate_left
 ·simp only [Act.put, zA, zZ, zS, aH, aI]
  rfl
 refine tkS (i := 9) (N := some 13) (v := ?_) (a' := ?_) rfl rfl (by kernel_rfl) (fun _ _ _ h => h) (Or.inl ⟨by rfl, ?_⟩) hHeld ?_ ?_
 rotate_left
 ·rintro w' ⟨s0, s1, s2, s3⟩
  go_simp
  with_reducible rfl
 rotate_left
 ·simp only [Act.put, zA, zZ, zS, aH, aI]
  rfl
 refine puS (i := 10) (N := some 14) (v := ?_) (a' := ?_) rfl rfl (by kernel_rfl) (fun _ _ _ h => h) (Or.inl ⟨by rfl, ?_⟩) ?_ ?_
 rotate_left
 ·intro w'
  go_simp
  with_reducible rfl
 rotate_left
 ·simp only [Act.put, zA, zZ, zS, aH, aI]
  rfl
 refine puS (i := 11) (N := some 15) (v := ?_) (a' := ?_) rfl rfl (by kernel_rfl) (fun _ _ _ h => h) (Or.inl ⟨by rfl, ?_⟩) ?_ ?_
 rotate_left
 ·intro w'
  go_simp
  with_reducible rfl
 rotate_left
 ·simp only [Act.put, zA, zZ, zS, aH, aI]
  rfl
 refine puS (i := 12) (N := some 16) (v := ?_) (a' := ?_) rfl rfl (by kernel_rfl) (fun _ _ _ h => h) (Or.inl ⟨by rfl, ?_⟩) ?_ ?_
 rotate_left
 ·intro w'
  go_simp
  with_reducible rfl
 rotate_left
 ·simp only [Act.put, zA, zZ, zS, aH, aI]
  rfl
 refine laS (i := 13) (N := none) rfl rfl (by kernel_rfl) (by decide) (fun K hK => ?_)
 refine xK (w1 := ?_) (by rfl) rfl ?_ ?_
 rotate_left
 ·go_simp
  rfl
 refine hK.out _ _ ?_
 clear hK K
 refine jM (by kernel_rfl) ?_
 go_end0
 refine ⟨rfl, .slice (some ⟨g, 0, none⟩) l.length c, bI (dF (p := ⟨g, i * 3 + 1, none⟩) HP.out (fun e => NGP.out e.symm) _), ?_, fH ((Below.refl base w).setCell HG.out _), fun k cs h => bI (dF (p := ⟨g, i * 3 + 1, none⟩) h (gB h HH.out (by decide)) _)⟩
 have h := zG (u := .string (x.f1 ++ data)) HO.out (l' := l.set i ⟨x.f0, x.f1 ++ data, x.f2⟩) (by rw [List.length_set]) (jV l i x _ HX.out) (j := i * 3 + 1) (by omega)
 rw [List.length_set] at h
 exact h
set_option maxHeartbeats 4000000 in
theorem RJ (W w1 : World) (gp : Nat) (v : Value) (l : List S67) (dn : Bool) (fu fa : Int) (data : ByteArray) (sd : Int → List S67) (hsd : ∀ (i : Nat) (x : S67), l[i]? = some x → x.f1.size + data.size ≤ 262144 → sd (i : Int) = l.set i ⟨x.f0, x.f1 ++ data, x.f2⟩) (hb : Below W.heap.size W w1) (hgp : W.heap.size ≤ gp) (hp : w1.heap[gp]? = some (.cells #[v, .bool dn, .int .i64 fu, .int .i64 fa] 211 (0, 0)))
  (ho : Kd.R k67 67 w1 W.heap.size (fun _ => True) v l) (hok : bF l = true) :
  Calls Tryz.prog 129 #[.pointer (some ⟨gp, 0, none⟩), .string data] w1 fun e w2 => ∃ rv dv : Value, e = .returned (.agg #[rv, dv, .bool true]) ∧ Below w1.heap.size w1 w2 ∧ qcv w2 rv l.length (rfW data l) ∧ DoV W.heap.size gp w2 dv v l (rfW data l) sd := by
 obtain ⟨A, c, rfl⟩ := Kd.dQ ho
 have hlt : gp < w1.heap.size := gG hp
 have hle : l.length ≤ 64 := by
  simp only [bF, Bool.and_eq_true, decide_eq_true_eq] at hok
  exact hok.2
 go_enter Tryz.func129, Tryz.ntmps129
 go_wp2
 refine bodyPost_ret (results_cell_row rfl _ _ (w1.heap.size + 2) 179 #[.func (.func 175) #[] #[.pointer (some ⟨w1.heap.size + 1, 0, none⟩), .pointer (some ⟨w1.heap.size, 0, none⟩)], .func (.func 176) #[] #[.pointer (some ⟨w1.heap.size, 0, none⟩), .pointer (some ⟨w1.heap.size + 1, 0, none⟩)], .bool true] (0, 0) _ rfl (qa4 w1 _ _ _) Tryz.underlying179 rfl (by kernel_rfl)) rfl ?_
 refine ⟨_, _, rfl, aQ (aQ (aQ (Below.refl _ _) _) _) _, ⟨175, _, rfl, qba, fun w3 i b hb3 hil hib => ?_⟩, 176, _, rfl, qbb, fun w3 i b dn fu fa hk hil hib hrf hp3 ho3 => ?_⟩
 ·refine fD (args' := #[.int .i64 (i : Int), .bool b, .pointer (some ⟨w1.heap.size + 1, 0, none⟩), .pointer (some ⟨w1.heap.size, 0, none⟩)]) (by simp) ?_
  have JR := hb3 _ _ _ (by decide) (by decide) (by simp) (MS w1 _ _ _)
  have JU := hb3 _ _ _ (by decide) (by decide) (by simp) (MV w1 _ _ _)
  have hpp := hb3 _ _ _ (by decide) (by decide) (by simp) (aY (aY (aY hp _) _) _)
  cases b with
  | false =>
   refine (MF w3 _ _ data l i).mono ?_
   rintro e w4 ⟨rfl, rfl⟩
   exact ⟨rfl, Below.refl _ _⟩
  | true =>
   obtain ⟨x, hx⟩ := vC (hib rfl)
   obtain ⟨g, cur, rfl, _, hg, hh, h3, h4, h5, h6⟩ := lW ho (by have := hib rfl; omega)
   exact OL w3 gp w1.heap.size (w1.heap.size + 1) g cur data l c i x hx (o8 hok hx).2.1 hle ((aG JU 0).trans rfl) ((aG JR 0).trans rfl) ((aG hpp 0).trans rfl) (hb3 _ _ _ (by decide) (by decide) (by simp) (aY (aY (aY hh _) _) _)) h6
 ·refine fD (args' := #[.int .i64 (i : Int), .pointer (some ⟨w1.heap.size, 0, none⟩), .pointer (some ⟨w1.heap.size + 1, 0, none⟩)]) (by simp) ?_
  have JR := hk _ _ _ (by decide) (by decide) (fun h => by injection h with h; omega) (MS w1 _ _ _)
  have JU := hk _ _ _ (by decide) (by decide) (fun h => by injection h with h; omega) (MV w1 _ _ _)
  have hsz : W.heap.size ≤ w3.heap.size := by have := gG hp3; omega
  have hbt : b = true := by
   cases b
   ·simp [rfW] at hrf
   ·rfl
  subst hbt
  obtain ⟨x, hx⟩ := vC (hib rfl)
  have hsum : x.f1.size + data.size ≤ 262144 := by
   rw [rfW, if_pos rfl, iC hx] at hrf
   split at hrf
   ·cases hrf
   ·have := (o8 hok hx).2.1
    omega
  refine (qbc gp w1.heap.size (w1.heap.size + 1) w3 W.heap.size l data A c dn fu fa i x hx hsum JR JU ⟨hp3, ho3⟩).mono fun e w4 h => ?_
  rw [hsd i x hx hsum]
  exact h
set_option maxHeartbeats 4000000 in
theorem qbe (W : World) (nb : Nat) (l : List S67) (dn : Bool) (fu fa : Int) (data : ByteArray) (sd : Int → List S67) (hsd : ∀ (i : Nat) (x : S67), l[i]? = some x → x.f1.size + data.size ≤ 262144 → sd (i : Int) = l.set i ⟨x.f0, x.f1 ++ data, x.f2⟩) (hnb : W.heap[nb]? = some (.cells #[.string data] 9 (0, 0))) :
  OfV W 128 #[.pointer (some ⟨nb, 0, none⟩)] l dn fu fa true (rfW data l) sd := by
 intro w1 gp v hb hgp hp ho hok
 have hc := (aG (bD hnb hb) 0).trans rfl
 refine fD (args' := #[.pointer (some ⟨gp, 0, none⟩), .pointer (some ⟨nb, 0, none⟩)]) (by simp) ?_
 have HB := aA.mk hb
 have HGP := aA.mk hgp
 have HP := aA.mk hp
 have HO := aA.mk ho
 have HOK := aA.mk hok
 clear hb hgp hp ho hok hnb
 go_enter Tryz.func128, Tryz.ntmps128
 go_wp2_with (first
 |((with_reducible refine aP (N := 3) rfl ?_);
   refine dI ?hg (N := 3) ?hd (cs := #[.nilFunc, .nilFunc, .bool false]) (t := 179) ?hr ?_;
   (case hd => rfl); (case hg => rfl); (case hr => first | (go_simp; done) | (go_simp; rfl));
   intro g3 hg w2 hbox hb2;
   have N3 := aA.mk (show w1.heap.size ≤ g3 by rw [hg]; exact Nat.le_refl _);
   have hc2 := (hb2.cell (World.block_lt_of_cell? w1 _ hc)).trans hc;
   have HB2 := aA.mk hb2; have BK3 := aA.mk hbox; clear hg hbox hb2 hc)
 |fail)
 refine ((RJ W _ gp v l dn fu fa data sd hsd (aX HB.out HB2.out) HGP.out (bD HP.out HB2.out) (Kd.pO HO.out HB2.out) HOK.out).mono ?_)
 rintro e w4 ⟨rv, dv, rfl, hb4, ⟨Kr, cr, rfl, hKr, hrf⟩, ⟨Kd_, cd, rfl, hKd, hdo⟩⟩
 have HKr := aA.mk hKr
 have Hrf := aA.mk hrf
 have HKd := aA.mk hKd
 have Hdo := aA.mk hdo
 have HB4 := aA.mk hb4
 have bk := bD BK3.out hb4
 have c0 := (aG bk 0).trans rfl
 have c1 := (aG bk 1).trans rfl
 have c2 := (aG bk 2).trans rfl
 have f0 := aC bk 0
 have f1 := aC bk 1
 have f2 := aC bk 2
 have BK4 := aA.mk bk
 clear hKr hrf hKd hdo hb4 bk
 go_wp2
 refine bodyPost_ret (results_cell_row rfl _ _ g3 179 #[.func (.func Kr) #[] cr, .func (.func Kd_) #[] cd, .bool true] (0, 0) _ rfl (qcw BK4.out _ _ _) Tryz.underlying179 rfl (by kernel_rfl)) rfl ?_
 have hw4 : Below w1.heap.size w1 w4 := aX HB2.out HB4.out
 have hgg : ∀ (k : Nat), k ≠ g3 → (((w4.setCell ⟨g3, 0, none⟩ (.func (.func Kr) #[] cr)).setCell ⟨g3, 1, none⟩ (.func (.func Kd_) #[] cd)).setCell ⟨g3, 2, none⟩ (.bool true)).heap[k]? = w4.heap[k]? := fun k hk =>
  ((Below.heap_setCell _ ⟨g3, 2, none⟩ _ k hk).trans (Below.heap_setCell _ ⟨g3, 1, none⟩ _ k hk)).trans (Below.heap_setCell _ ⟨g3, 0, none⟩ _ k hk)
 refine ⟨_, _, rfl, below3 hw4 N3.out _ _ _, ⟨Kr, cr, rfl, HKr.out, ?_⟩, Kd_, cd, rfl, HKd.out, ?_⟩
 ·intro w5 i b hk hil hib
  refine Hrf.out w5 i b (fun k cs t h1 h2 h3 h4 => hk k cs t h1 h2 h3 ?_) hil hib
  rw [hgg k (fun e => by subst e; exact absurd h4 (ZQ BK4.out h1))]
  exact h4
 ·intro w5 i b dn fu fa hk
  refine Hdo.out w5 i b dn fu fa (fun k cs t h1 h2 h3 h4 => hk k cs t h1 h2 h3 ?_)
  rw [hgg k (fun e => by subst e; exact absurd h4 (ZQ BK4.out h1))]
  exact h4
def rfT (size : Int) (l : List S67) (i : Int) (b : Bool) : Int := if b = true then (if size < 0 ∨ ((dX l i).f1.size : Int) < size then 2 else 0) else 7
theorem qbf : Enters 163 := fun args w => jS Tryz.func163 (by kernel_rfl) (by kernel_rfl) args w
theorem qbg : Enters 164 := fun args w => jS Tryz.func164 (by kernel_rfl) (by kernel_rfl) args w
theorem RN (w : World) (v2 v1 : Value) (size : Int) (l : List S67) (i : Int) :
  Calls Tryz.prog 163 #[.int .i64 i, .bool false, v2, v1] w fun e w' => e = .returned (.int .i64 (rfT size l i false)) ∧ w = w' := by
 go_enter Tryz.func163, Tryz.ntmps163
 go_wp2_with (go_at_call 160; refine (o7 _ _ _).mono ?_; rintro e w' ⟨rfl, rfl⟩)
 go_ret
 exact ⟨rfl, rfl⟩
set_option maxHeartbeats 4000000 in
theorem UL (w : World) (gp b1 b2 g : Nat) (cur : Array Value) (size : Int) (l : List S67) (c : Nat) (i : Nat) (x : S67) (hx : l[i]? = some x) (hn : l.length ≤ 64) (s3 : w.cell? ⟨b2, 0, none⟩ = some (.int .i64 size)) (s1 : w.cell? ⟨b1, 0, none⟩ = some (.pointer (some ⟨gp, 0, none⟩)))
  (s2 : w.cell? ⟨gp, 0, none⟩ = some (.slice (some ⟨g, 0, none⟩) l.length c)) (hh : w.heap[g]? = some (.cells cur 67 (0, 0))) (h6 : cur.toList.take (l.length * 3) = cellsOf l) :
  Calls Tryz.prog 163 #[.int .i64 (i : Int), .bool true, .pointer (some ⟨b2, 0, none⟩), .pointer (some ⟨b1, 0, none⟩)] w fun e w' => e = .returned (.int .i64 (rfT size l i true)) ∧ Below w.heap.size w w' := by
 have hlt : i < l.length := (List.getElem?_eq_some_iff.1 hx).1
 obtain ⟨e0, e1, e2⟩ := iZ l i x hx
 have s4 : w.cell? ⟨g, i * 3 + 1, none⟩ = some (.string x.f1) := kC hh h6 e1
 have hi0 : (0 : Int) ≤ (i : Int) := by omega
 have hi1 : (i : Int) < (l.length : Int) := by omega
 obtain ⟨R, hR⟩ : ∃ R, R = rfT size l i true := ⟨_, rfl⟩
 rw [← hR]
 have HR : aA (R = if size < 0 ∨ (x.f1.size : Int) < size then 2 else 0) := ⟨by rw [hR, rfT, if_pos rfl, iC hx]⟩
 clear hR hx hh h6 e0 e1 e2
 by_cases hs : size < 0
 ·have HE : aA (R = 2) := ⟨by rw [HR.out, if_pos (.inl hs)]⟩
  have hd : decide (size < 0) = true := by simpa using hs
  clear hs
  go_enter Tryz.func163, Tryz.ntmps163
  go_wp2_with (go_at_call 160; refine (o7 _ _ _).mono ?_; rintro e w' ⟨rfl, rfl⟩)
  refine gX (n := 16) (S := fun w' => w'.cell? ⟨b2, 0, none⟩ = some (.int .i64 size) ∧ w'.cell? ⟨b1, 0, none⟩ = some (.pointer (some ⟨gp, 0, none⟩)) ∧ w'.cell? ⟨gp, 0, none⟩ = some (.slice (some ⟨g, 0, none⟩) l.length c) ∧ w'.cell? ⟨g, i * 3 + 1, none⟩ = some (.string x.f1)) (ds := []) #[false, false, false, false, false, false, false, false, false, false, false, false, false, false, false, false] (by kernel_rfl) rfl rfl ⟨s3, s1, s2, s4⟩ (fun hHeld => ?_)
  refine tkS (i := 0) (N := some 14) (v := ?_) (a' := ?_) rfl rfl (by kernel_rfl) (fun _ _ _ h => h) (Or.inl ⟨by rfl, ?_⟩) hHeld ?_ ?_
  rotate_left
  ·rintro w' ⟨s0, s1, s2, s3⟩
   go_simp
   with_reducible rfl
  rotate_left
  ·simp only [Act.put, zA, zZ, zS, aH, aI]
   rfl
  refine puS (i := 1) (N := some 15) (v := ?_) (a' := ?_) rfl rfl (by kernel_rfl) (fun _ _ _ h => h) (Or.inl ⟨by rfl, ?_⟩) ?_ ?_
  rotate_left
  ·intro w'
   go_simp
   with_reducible rfl
  rotate_left
  ·simp only [Act.put, zA, zZ, zS, aH, aI]
   rfl
  refine puS (i := 2) (N := some 16) (v := ?_) (a' := ?_) rfl rfl (by kernel_rfl) (fun _ _ _ h => h) (Or.inl ⟨by rfl, ?_⟩) ?_ ?_
  rotate_left
  ·intro w'
   go_simp
   with_reducible rfl
  rotate_left
  ·simp only [Act.put, zA, zZ, zS, aH, aI]
   rfl
  refine puS (i := 3) (N := some 17) (v := undef) (a' := ?_) rfl rfl (by kernel_rfl) (fun _ _ _ h => h) (Or.inr ⟨by rfl, rfl⟩) ?_ ?_
  rotate_left
  ·simp only [Act.put, zA, zZ, zS, aH, aI]
   rfl
  refine puS (i := 4) (N := some 18) (v := undef) (a' := ?_) rfl rfl (by kernel_rfl) (fun _ _ _ h => h) (Or.inr ⟨by rfl, rfl⟩) ?_ ?_
  rotate_left
  ·simp only [Act.put, zA, zZ, zS, aH, aI]
   rfl
  refine puS (i := 5) (N := some 19) (v := undef) (a' := ?_) rfl rfl (by kernel_rfl) (fun _ _ _ h => h) (Or.inr ⟨by rfl, rfl⟩) ?_ ?_
  rotate_left
  ·simp only [Act.put, zA, zZ, zS, aH, aI]
   rfl
  refine puS (i := 6) (N := some 20) (v := undef) (a' := ?_) rfl rfl (by kernel_rfl) (fun _ _ _ h => h) (Or.inr ⟨by rfl, rfl⟩) ?_ ?_
  rotate_left
  ·simp only [Act.put, zA, zZ, zS, aH, aI]
   rfl
  refine puS (i := 7) (N := some 21) (v := undef) (a' := ?_) rfl rfl (by kernel_rfl) (fun _ _ _ h => h) (Or.inr ⟨by rfl, rfl⟩) ?_ ?_
  rotate_left
  ·simp only [Act.put, zA, zZ, zS, aH, aI]
   rfl
  refine puS (i := 8) (N := some 22) (v := undef) (a' := ?_) rfl rfl (by kernel_rfl) (fun _ _ _ h => h) (Or.inr ⟨by rfl, rfl⟩) ?_ ?_
  rotate_left
  ·simp only [Act.put, zA, zZ, zS, aH, aI]
   rfl
  refine puS (i := 9) (N := some 23) (v := undef) (a' := ?_) rfl rfl (by kernel_rfl) (fun _ _ _ h => h) (Or.inr ⟨by rfl, rfl⟩) ?_ ?_
  rotate_left
  ·simp only [Act.put, zA, zZ, zS, aH, aI]
   rfl
  refine puS (i := 10) (N := some 24) (v := undef) (a' := ?_) rfl rfl (by kernel_rfl) (fun _ _ _ h => h) (Or.inr ⟨by rfl, rfl⟩) ?_ ?_
  rotate_left
  ·simp only [Act.put, zA, zZ, zS, aH, aI]
   rfl
  refine puS (i := 11) (N := some 25) (v := undef) (a' := ?_) rfl rfl (by kernel_rfl) (fun _ _ _ h => h) (Or.inr ⟨by rfl, rfl⟩) ?_ ?_
  rotate_left
  ·simp only [Act.put, zA, zZ, zS, aH, aI]
   rfl
  refine puS (i := 12) (N := some 26) (v := undef) (a' := ?_) rfl rfl (by kernel_rfl) (fun _ _ _ h => h) (Or.inr ⟨by rfl, rfl⟩) ?_ ?_
  rotate_left
  ·simp only [Act.put, zA, zZ, zS, aH, aI]
   rfl
  refine puS (i := 13) (N := some 27) (v := undef) (a' := ?_) rfl rfl (by kernel_rfl) (fun _ _ _ h => h) (Or.inr ⟨by rfl, rfl⟩) ?_ ?_
  rotate_left
  ·simp only [Act.put, zA, zZ, zS, aH, aI]
   rfl
  refine puS (i := 14) (N := some 28) (v := undef) (a' := ?_) rfl rfl (by kernel_rfl) (fun _ _ _ h => h) (Or.inr ⟨by rfl, rfl⟩) ?_ ?_
  rotate_left
  ·simp only [Act.put, zA, zZ, zS, aH, aI]
   rfl
  refine puS (i := 15) (N := some 29) (v := ?_) (a' := ?_) rfl rfl (by kernel_rfl) (fun _ _ _ h => h) (Or.inl ⟨by rfl, ?_⟩) ?_ ?_
  rotate_left
  ·intro w'
   go_simp
   with_reducible rfl
  rotate_left
  ·simp only [Act.put, zA, zZ, zS, aH, aI]
   rfl
  refine jM (by kernel_rfl) ?_
  go_wp2
  go_ret
  exact ⟨by rw [HE.out]; rfl, fH (Below.refl _ _)⟩
 ·have hd : decide (size < 0) = false := by simpa using hs
  by_cases hb : (x.f1.size : Int) < size
  ·have HE : aA (R = 2) := ⟨by rw [HR.out, if_pos (.inr hb)]⟩
   have hd2 : decide ((x.f1.size : Int) < size) = true := by simpa using hb
   clear hs hb
   go_enter Tryz.func163, Tryz.ntmps163
   go_wp2_with (go_at_call 160; refine (o7 _ _ _).mono ?_; rintro e w' ⟨rfl, rfl⟩)
   refine gX (n := 16) (S := fun w' => w'.cell? ⟨b2, 0, none⟩ = some (.int .i64 size) ∧ w'.cell? ⟨b1, 0, none⟩ = some (.pointer (some ⟨gp, 0, none⟩)) ∧ w'.cell? ⟨gp, 0, none⟩ = some (.slice (some ⟨g, 0, none⟩) l.length c) ∧ w'.cell? ⟨g, i * 3 + 1, none⟩ = some (.string x.f1)) (ds := []) #[false, false, false, false, false, false, false, false, false, false, false, false, false, false, false, false] (by kernel_rfl) rfl rfl ⟨s3, s1, s2, s4⟩ (fun hHeld => ?_)
   refine tkS (i := 0) (N := some 14) (v := ?_) (a' := ?_) rfl rfl (by kernel_rfl) (fun _ _ _ h => h) (Or.inl ⟨by rfl, ?_⟩) hHeld ?_ ?_
   rotate_left
   ·rintro w' ⟨s0, s1, s2, s3⟩
    go_simp
    with_reducible rfl
   rotate_left
   ·simp only [Act.put, zA, zZ, zS, aH, aI]
    rfl
   refine puS (i := 1) (N := some 15) (v := ?_) (a' := ?_) rfl rfl (by kernel_rfl) (fun _ _ _ h => h) (Or.inl ⟨by rfl, ?_⟩) ?_ ?_
   rotate_left
   ·intro w'
    go_simp
    with_reducible rfl
   rotate_left
   ·simp only [Act.put, zA, zZ, zS, aH, aI]
    rfl
   refine puS (i := 2) (N := some 16) (v := ?_) (a' := ?_) rfl rfl (by kernel_rfl) (fun _ _ _ h => h) (Or.inl ⟨by rfl, ?_⟩) ?_ ?_
   rotate_left
   ·intro w'
    go_simp
    with_reducible rfl
   rotate_left
   ·simp only [Act.put, zA, zZ, zS, aH, aI]
    rfl
   refine puS (i := 9) (N := some 23) (v := ?_) (a' := ?_) rfl rfl (by kernel_rfl) (fun _ _ _ h => h) (Or.inl ⟨by rfl, ?_⟩) ?_ ?_
   rotate_left
   ·intro w'
    go_simp
    with_reducible rfl
   rotate_left
   ·simp only [Act.put, zA, zZ, zS, aH, aI]
    rfl
   refine tkS (i := 3) (N := some 17) (v := ?_) (a' := ?_) rfl rfl (by kernel_rfl) (fun _ _ _ h => h) (Or.inl ⟨by rfl, ?_⟩) hHeld ?_ ?_
   rotate_left
   ·rintro w' ⟨s0, s1, s2, s3⟩
    go_simp
    with_reducible rfl
   rotate_left
   ·simp only [Act.put, zA, zZ, zS, aH, aI]
    rfl
   refine tkS (i := 4) (N := some 18) (v := ?_) (a' := ?_) rfl rfl (by kernel_rfl) (fun _ _ _ h => h) (Or.inl ⟨by rfl, ?_⟩) hHeld ?_ ?_
   rotate_left
   ·rintro w' ⟨s0, s1, s2, s3⟩
    go_simp
    with_reducible rfl
   rotate_left
   ·simp only [Act.put, zA, zZ, zS, aH, aI]
    rfl
   refine puS (i := 5) (N := some 19) (v := ?_) (a' := ?_) rfl rfl (by kernel_rfl) (fun _ _ _ h => h) (Or.inl ⟨by rfl, ?_⟩) ?_ ?_
   rotate_left
   ·intro w'
    go_simp
    with_reducible rfl
   rotate_left
   ·simp only [Act.put, zA, zZ, zS, aH, aI]
    rfl
   refine puS (i := 6) (N := some 20) (v := ?_) (a' := ?_) rfl rfl (by kernel_rfl) (fun _ _ _ h => h) (Or.inl ⟨by rfl, ?_⟩) ?_ ?_
   rotate_left
   ·intro w'
    go_simp
    with_reducible rfl
   rotate_left
   ·simp only [Act.put, zA, zZ, zS, aH, aI]
    rfl
   refine puS (i := 7) (N := some 21) (v := ?_) (a' := ?_) rfl rfl (by kernel_rfl) (fun _ _ _ h => h) (Or.inl ⟨by rfl, ?_⟩) ?_ ?_
   rotate_left
   ·intro w'
    go_simp
    with_reducible rfl
   rotate_left
   ·simp only [Act.put, zA, zZ, zS, aH, aI]
    rfl
   refine tkS (i := 8) (N := some 22) (v := ?_) (a' := ?_) rfl rfl (by kernel_rfl) (fun _ _ _ h => h) (Or.inl ⟨by rfl, ?_⟩) hHeld ?_ ?_
   rotate_left
   ·rintro w' ⟨s0, s1, s2, s3⟩
    go_simp
    with_reducible rfl
   rotate_left
   ·simp only [Act.put, zA, zZ, zS, aH, aI]
    rfl
   refine puS (i := 10) (N := some 24) (v := ?_) (a' := ?_) rfl rfl (by kernel_rfl) (fun _ _ _ h => h) (Or.inl ⟨by rfl, ?_⟩) ?_ ?_
   rotate_left
   ·intro w'
    go_simp
    with_reducible rfl
   rotate_left
   ·simp only [Act.put, zA, zZ, zS, aH, aI]
    rfl
   refine puS (i := 11) (N := some 25) (v := ?_) (a' := ?_) rfl rfl (by kernel_rfl) (fun _ _ _ h => h) (Or.inl ⟨by rfl, ?_⟩) ?_ ?_
   rotate_left
   ·intro w'
    go_simp
    with_reducible rfl
   rotate_left
   ·simp only [Act.put, zA, zZ, zS, aH, aI]
    rfl
   refine tkS (i := 12) (N := some 26) (v := ?_) (a' := ?_) rfl rfl (by kernel_rfl) (fun _ _ _ h => h) (Or.inl ⟨by rfl, ?_⟩) hHeld ?_ ?_
   rotate_left
   ·rintro w' ⟨s0, s1, s2, s3⟩
    go_simp
    with_reducible rfl
   rotate_left
   ·simp only [Act.put, zA, zZ, zS, aH, aI]
    rfl
   refine puS (i := 13) (N := some 27) (v := ?_) (a' := ?_) rfl rfl (by kernel_rfl) (fun _ _ _ h => h) (Or.inl ⟨by rfl, ?_⟩) ?_ ?_
   rotate_left
   ·intro w'
    go_simp
    with_reducible rfl
   rotate_left
   ·simp only [Act.put, zA, zZ, zS, aH, aI]
    rfl
   refine puS (i := 14) (N := some 28) (v := ?_) (a' := ?_) rfl rfl (by kernel_rfl) (fun _ _ _ h => h) (Or.inl ⟨by rfl, ?_⟩) ?_ ?_
   rotate_left
   ·intro w'
    go_simp
    with_reducible rfl
   rotate_left
   ·simp only [Act.put, zA, zZ, zS, aH, aI]
    rfl
   refine puS (i := 15) (N := some 29) (v := ?_) (a' := ?_) rfl rfl (by kernel_rfl) (fun _ _ _ h => h) (Or.inl ⟨by rfl, ?_⟩) ?_ ?_
   rotate_left
   ·intro w'
    go_simp
    with_reducible rfl
   rotate_left
   ·simp only [Act.put, zA, zZ, zS, aH, aI]
    rfl
   refine jM (by kernel_rfl) ?_
   go_wp2
   go_ret
   exact ⟨by rw [HE.out]; rfl, fH (Below.refl _ _)⟩
  ·have HE : aA (R = 0) := ⟨by rw [HR.out, if_neg (by rintro (h | h) <;> contradiction)]⟩
   have hd2 : decide ((x.f1.size : Int) < size) = false := by simpa using hb
   clear hs hb
   go_enter Tryz.func163, Tryz.ntmps163
   go_wp2_with (go_at_call 160; refine (o7 _ _ _).mono ?_; rintro e w' ⟨rfl, rfl⟩)
   refine gX (n := 16) (S := fun w' => w'.cell? ⟨b2, 0, none⟩ = some (.int .i64 size) ∧ w'.cell? ⟨b1, 0, none⟩ = some (.pointer (some ⟨gp, 0, none⟩)) ∧ w'.cell? ⟨gp, 0, none⟩ = some (.slice (some ⟨g, 0, none⟩) l.length c) ∧ w'.cell? ⟨g, i * 3 + 1, none⟩ = some (.string x.f1)) (ds := []) #[false, false, false, false, false, false, false, false, false, false, false, false, false, false, false, false] (by kernel_rfl) rfl rfl ⟨s3, s1, s2, s4⟩ (fun hHeld => ?_)
   refine tkS (i := 0) (N := some 14) (v := ?_) (a' := ?_) rfl rfl (by kernel_rfl) (fun _ _ _ h => h) (Or.inl ⟨by rfl, ?_⟩) hHeld ?_ ?_
   rotate_left
   ·rintro w' ⟨s0, s1, s2, s3⟩
    go_simp
    with_reducible rfl
   rotate_left
   ·simp only [Act.put, zA, zZ, zS, aH, aI]
    rfl
   refine puS (i := 1) (N := some 15) (v := ?_) (a' := ?_) rfl rfl (by kernel_rfl) (fun _ _ _ h => h) (Or.inl ⟨by rfl, ?_⟩) ?_ ?_
   rotate_left
   ·intro w'
    go_simp
    with_reducible rfl
   rotate_left
   ·simp only [Act.put, zA, zZ, zS, aH, aI]
    rfl
   refine puS (i := 2) (N := some 16) (v := ?_) (a' := ?_) rfl rfl (by kernel_rfl) (fun _ _ _ h => h) (Or.inl ⟨by rfl, ?_⟩) ?_ ?_
   rotate_left
   ·intro w'
    go_simp
    with_reducible rfl
   rotate_left
   ·simp only [Act.put, zA, zZ, zS, aH, aI]
    rfl
   refine puS (i := 9) (N := some 23) (v := ?_) (a' := ?_) rfl rfl (by kernel_rfl) (fun _ _ _ h => h) (Or.inl ⟨by rfl, ?_⟩) ?_ ?_
   rotate_left
   ·intro w'
    go_simp
    with_reducible rfl
   rotate_left
   ·simp only [Act.put, zA, zZ, zS, aH, aI]
    rfl
   refine tkS (i := 3) (N := some 17) (v := ?_) (a' := ?_) rfl rfl (by kernel_rfl) (fun _ _ _ h => h) (Or.inl ⟨by rfl, ?_⟩) hHeld ?_ ?_
   rotate_left
   ·rintro w' ⟨s0, s1, s2, s3⟩
    go_simp
    with_reducible rfl
   rotate_left
   ·simp only [Act.put, zA, zZ, zS, aH, aI]
    rfl
   refine tkS (i := 4) (N := some 18) (v := ?_) (a' := ?_) rfl rfl (by kernel_rfl) (fun _ _ _ h => h) (Or.inl ⟨by rfl, ?_⟩) hHeld ?_ ?_
   rotate_left
   ·rintro w' ⟨s0, s1, s2, s3⟩
    go_simp
    with_reducible rfl
   rotate_left
   ·simp only [Act.put, zA, zZ, zS, aH, aI]
    rfl
   refine puS (i := 5) (N := some 19) (v := ?_) (a' := ?_) rfl rfl (by kernel_rfl) (fun _ _ _ h => h) (Or.inl ⟨by rfl, ?_⟩) ?_ ?_
   rotate_left
   ·intro w'
    go_simp
    with_reducible rfl
   rotate_left
   ·simp only [Act.put, zA, zZ, zS, aH, aI]
    rfl
   refine puS (i := 6) (N := some 20) (v := ?_) (a' := ?_) rfl rfl (by kernel_rfl) (fun _ _ _ h => h) (Or.inl ⟨by rfl, ?_⟩) ?_ ?_
   rotate_left
   ·intro w'
    go_simp
    with_reducible rfl
   rotate_left
   ·simp only [Act.put, zA, zZ, zS, aH, aI]
    rfl
   refine puS (i := 7) (N := some 21) (v := ?_) (a' := ?_) rfl rfl (by kernel_rfl) (fun _ _ _ h => h) (Or.inl ⟨by rfl, ?_⟩) ?_ ?_
   rotate_left
   ·intro w'
    go_simp
    with_reducible rfl
   rotate_left
   ·simp only [Act.put, zA, zZ, zS, aH, aI]
    rfl
   refine tkS (i := 8) (N := some 22) (v := ?_) (a' := ?_) rfl rfl (by kernel_rfl) (fun _ _ _ h => h) (Or.inl ⟨by rfl, ?_⟩) hHeld ?_ ?_
   rotate_left
   ·rintro w' ⟨s0, s1, s2, s3⟩
    go_simp
    with_reducible rfl
   rotate_left
   ·simp only [Act.put, zA, zZ, zS, aH, aI]
    rfl
   refine puS (i := 10) (N := some 24) (v := ?_) (a' := ?_) rfl rfl (by kernel_rfl) (fun _ _ _ h => h) (Or.inl ⟨by rfl, ?_⟩) ?_ ?_
   rotate_left
   ·intro w'
    go_simp
    with_reducible rfl
   rotate_left
   ·simp only [Act.put, zA, zZ, zS, aH, aI]
    rfl
   refine puS (i := 11) (N := some 25) (v := ?_) (a' := ?_) rfl rfl (by kernel_rfl) (fun _ _ _ h => h) (Or.inl ⟨by rfl, ?_⟩) ?_ ?_
   rotate_left
   ·intro w'
    go_simp
    with_reducible rfl
   rotate_left
   ·simp only [Act.put, zA, zZ, zS, aH, aI]
    rfl
   refine tkS (i := 12) (N := some 26) (v := ?_) (a' := ?_) rfl rfl (by kernel_rfl) (fun _ _ _ h => h) (Or.inl ⟨by rfl, ?_⟩) hHeld ?_ ?_
   rotate_left
   ·rintro w' ⟨s0, s1, s2, s3⟩
    go_simp
    with_reducible rfl
   rotate_left
   ·simp only [Act.put, zA, zZ, zS, aH, aI]
    rfl
   refine puS (i := 13) (N := some 27) (v := ?_) (a' := ?_) rfl rfl (by kernel_rfl) (fun _ _ _ h => h) (Or.inl ⟨by rfl, ?_⟩) ?_ ?_
   rotate_left
   ·intro w'
    go_simp
    with_reducible rfl
   rotate_left
   ·simp only [Act.put, zA, zZ, zS, aH, aI]
    rfl
   refine puS (i := 14) (N := some 28) (v := ?_) (a' := ?_) rfl rfl (by kernel_rfl) (fun _ _ _ h => h) (Or.inl ⟨by rfl, ?_⟩) ?_ ?_
   rotate_left
   ·intro w'
    go_simp
    with_reducible rfl
   rotate_left
   ·simp only [Act.put, zA, zZ, zS, aH, aI]
    rfl
   refine puS (i := 15) (N := some 29) (v := ?_) (a' := ?_) rfl rfl (by kernel_rfl) (fun _ _ _ h => h) (Or.inl ⟨by rfl, ?_⟩) ?_ ?_
   rotate_left
   ·intro w'
    go_simp
    with_reducible rfl
   rotate_left
   ·simp only [Act.put, zA, zZ, zS, aH, aI]
    rfl
   refine jM (by kernel_rfl) ?_
   go_wp2
   go_ret
   exact ⟨by rw [HE.out]; rfl, fH (Below.refl _ _)⟩
set_option maxHeartbeats 4000000 in
theorem qd5 (gp b1 b2 : Nat) (w : World) (base : Nat) (l : List S67) (size : Nat) (A : Option Addr) (c : Nat) (dn : Bool) (fu fa : Int) (i : Nat) (x : S67) (hx : l[i]? = some x) (hsz : size ≤ x.f1.size) (hn : l.length ≤ 64) (hs1 : x.f1.size ≤ 262144) (hb1 : w.heap[b1]? = some (.cells #[.pointer (some ⟨gp, 0, none⟩)] 176 (0, 0)))
  (hb2 : w.heap[b2]? = some (.cells #[.int .i64 (size : Int)] 3 (0, 0))) (hp : RH w base gp (.slice A l.length c) l dn fu fa) :
  Calls Tryz.prog 164 #[.int .i64 (i : Int), .pointer (some ⟨b1, 0, none⟩), .pointer (some ⟨b2, 0, none⟩)] w (Done w base gp dn fu fa (l.set i ⟨x.f0, x.f1.extract 0 size, (size : Int)⟩)) := by
 obtain ⟨hp, ho⟩ := hp
 have hlt : i < l.length := (List.getElem?_eq_some_iff.1 hx).1
 obtain ⟨g, cur, rfl, _, hg, hh, h3, h4, h5, h6⟩ := lW ho (by omega)
 obtain ⟨e0, e1, e2⟩ := iZ l i x hx
 have s1 : w.cell? ⟨b1, 0, none⟩ = some (.pointer (some ⟨gp, 0, none⟩)) := (aG hb1 0).trans rfl
 have s2 : w.cell? ⟨gp, 0, none⟩ = some (.slice (some ⟨g, 0, none⟩) l.length c) := (aG hp 0).trans rfl
 have s3 : w.cell? ⟨b2, 0, none⟩ = some (.int .i64 (size : Int)) := (aG hb2 0).trans rfl
 have s4 : w.cell? ⟨g, i * 3 + 1, none⟩ = some (.string x.f1) := kC hh h6 e1
 have s6 : w.cell? ⟨g, i * 3 + 2, none⟩ = some (.int .i64 x.f2) := kC hh h6 e2
 have s5 := aC hh (i * 3 + 1)
 have s7 := aC hh (i * 3 + 2)
 have ngp : g ≠ gp := gB hh hp (by decide)
 have HX := aA.mk hx
 have HO := aA.mk ho
 have HP := aA.mk hp
 have HH := aA.mk hh
 have NGP := aA.mk ngp
 have HG := aA.mk hg
 have hi0 : (0 : Int) ≤ (i : Int) := by omega
 have hi1 : (i : Int) < (l.length : Int) := by omega
 have hz1 : (0 : Int) ≤ (size : Int) := by omega
 have hz2 : (size : Int) ≤ (x.f1.size : Int) := by omega
 clear hx ho hp hh ngp h3 h4 h5 h6 e0 e1 e2 hb1 hg hb2
 go_enter Tryz.func164, Tryz.ntmps164
 go_wp2
 go_region
 go_end0
 have h1 := zG (u := .string (x.f1.extract 0 size)) HO.out (l' := l.set i ⟨x.f0, x.f1.extract 0 size, x.f2⟩) (by rw [List.length_set]) (jV l i x _ HX.out) (j := i * 3 + 1) (by omega)
 have hx2 : (l.set i ⟨x.f0, x.f1.extract 0 size, x.f2⟩)[i]? = some (⟨x.f0, x.f1.extract 0 size, x.f2⟩ : S67) := by simp [hlt]
 have h2 := zG (u := .int .i64 (size : Int)) h1 (l' := l.set i ⟨x.f0, x.f1.extract 0 size, (size : Int)⟩) (by rw [List.length_set, List.length_set]) (by
  have := jI _ i _ (size : Int) hx2
  rw [this, List.set_set]) (j := i * 3 + 2) (by rw [List.length_set]; omega)
 rw [List.length_set] at h2
 refine ⟨rfl, .slice (some ⟨g, 0, none⟩) l.length c, bI (dF (p := ⟨g, i * 3 + 2, none⟩) (dF (p := ⟨g, i * 3 + 1, none⟩) HP.out (fun e => NGP.out e.symm) _) (fun e => NGP.out e.symm) _), h2, fH (((Below.refl base w).setCell HG.out _).setCell HG.out _), fun k cs h => ?_⟩
 have hk := gB h HH.out (by decide)
 exact bI (dF (p := ⟨g, i * 3 + 2, none⟩) (dF (p := ⟨g, i * 3 + 1, none⟩) h hk _) hk _)
set_option maxHeartbeats 4000000 in
theorem ZU (W w1 : World) (gp : Nat) (v : Value) (l : List S67) (dn : Bool) (fu fa : Int) (size : Int) (sd : Int → List S67) (hsd : ∀ (i n : Nat) (x : S67), l[i]? = some x → size = (n : Int) → n ≤ x.f1.size → sd (i : Int) = l.set i ⟨x.f0, x.f1.extract 0 n, (n : Int)⟩) (hb : Below W.heap.size W w1) (hgp : W.heap.size ≤ gp) (hp : w1.heap[gp]? = some (.cells #[v, .bool dn, .int .i64 fu, .int .i64 fa] 211 (0, 0)))
  (ho : Kd.R k67 67 w1 W.heap.size (fun _ => True) v l) (hok : bF l = true) :
  Calls Tryz.prog 120 #[.pointer (some ⟨gp, 0, none⟩), .int .i64 size] w1 fun e w2 => ∃ rv dv : Value, e = .returned (.agg #[rv, dv, .bool false]) ∧ Below w1.heap.size w1 w2 ∧ qcv w2 rv l.length (rfT size l) ∧ DoV W.heap.size gp w2 dv v l (rfT size l) sd := by
 obtain ⟨A, c, rfl⟩ := Kd.dQ ho
 have hlt : gp < w1.heap.size := gG hp
 have hle : l.length ≤ 64 := by
  simp only [bF, Bool.and_eq_true, decide_eq_true_eq] at hok
  exact hok.2
 go_enter Tryz.func120, Tryz.ntmps120
 go_wp2
 refine bodyPost_ret (results_cell_row rfl _ _ (w1.heap.size + 2) 179 #[.func (.func 163) #[] #[.pointer (some ⟨w1.heap.size + 1, 0, none⟩), .pointer (some ⟨w1.heap.size, 0, none⟩)], .func (.func 164) #[] #[.pointer (some ⟨w1.heap.size, 0, none⟩), .pointer (some ⟨w1.heap.size + 1, 0, none⟩)], .bool false] (0, 0) _ rfl (qa4 w1 _ _ _) Tryz.underlying179 rfl (by kernel_rfl)) rfl ?_
 refine ⟨_, _, rfl, aQ (aQ (aQ (Below.refl _ _) _) _) _, ⟨163, _, rfl, qbf, fun w3 i b hb3 hil hib => ?_⟩, 164, _, rfl, qbg, fun w3 i b dn fu fa hk hil hib hrf hp3 ho3 => ?_⟩
 ·refine fD (args' := #[.int .i64 (i : Int), .bool b, .pointer (some ⟨w1.heap.size + 1, 0, none⟩), .pointer (some ⟨w1.heap.size, 0, none⟩)]) (by simp) ?_
  have JR := hb3 _ _ _ (by decide) (by decide) (by simp) (MS w1 _ _ _)
  have JU := hb3 _ _ _ (by decide) (by decide) (by simp) (MV w1 _ _ _)
  have hpp := hb3 _ _ _ (by decide) (by decide) (by simp) (aY (aY (aY hp _) _) _)
  cases b with
  | false =>
   refine (RN w3 _ _ size l i).mono ?_
   rintro e w4 ⟨rfl, rfl⟩
   exact ⟨rfl, Below.refl _ _⟩
  | true =>
   obtain ⟨x, hx⟩ := vC (hib rfl)
   obtain ⟨g, cur, rfl, _, hg, hh, h3, h4, h5, h6⟩ := lW ho (by have := hib rfl; omega)
   exact UL w3 gp w1.heap.size (w1.heap.size + 1) g cur size l c i x hx hle ((aG JU 0).trans rfl) ((aG JR 0).trans rfl) ((aG hpp 0).trans rfl) (hb3 _ _ _ (by decide) (by decide) (by simp) (aY (aY (aY hh _) _) _)) h6
 ·refine fD (args' := #[.int .i64 (i : Int), .pointer (some ⟨w1.heap.size, 0, none⟩), .pointer (some ⟨w1.heap.size + 1, 0, none⟩)]) (by simp) ?_
  have JR := hk _ _ _ (by decide) (by decide) (fun h => by injection h with h; omega) (MS w1 _ _ _)
  have JU := hk _ _ _ (by decide) (by decide) (fun h => by injection h with h; omega) (MV w1 _ _ _)
  have hsz : W.heap.size ≤ w3.heap.size := by have := gG hp3; omega
  have hbt : b = true := by
   cases b
   ·simp [rfT] at hrf
   ·rfl
  subst hbt
  obtain ⟨x, hx⟩ := vC (hib rfl)
  rw [rfT, if_pos rfl, iC hx] at hrf
  split at hrf
  ·cases hrf
  rename_i hno
  obtain ⟨n, rfl⟩ : ∃ n : Nat, size = (n : Int) := ⟨size.toNat, by omega⟩
  have hn : n ≤ x.f1.size := by omega
  refine (qd5 gp w1.heap.size (w1.heap.size + 1) w3 W.heap.size l n A c dn fu fa i x hx hn hle (o8 hok hx).2.1 JR JU ⟨hp3, ho3⟩).mono fun e w4 h => ?_
  rw [hsd i n x hx rfl hn]
  exact h
set_option maxHeartbeats 4000000 in
theorem qd6 (W : World) (nb : Nat) (l : List S67) (dn : Bool) (fu fa : Int) (size : Int) (sd : Int → List S67) (hsd : ∀ (i n : Nat) (x : S67), l[i]? = some x → size = (n : Int) → n ≤ x.f1.size → sd (i : Int) = l.set i ⟨x.f0, x.f1.extract 0 n, (n : Int)⟩) (hnb : W.heap[nb]? = some (.cells #[.int .i64 size] 3 (0, 0))) :
  OfV W 119 #[.pointer (some ⟨nb, 0, none⟩)] l dn fu fa false (rfT size l) sd := by
 intro w1 gp v hb hgp hp ho hok
 have hc := (aG (bD hnb hb) 0).trans rfl
 refine fD (args' := #[.pointer (some ⟨gp, 0, none⟩), .pointer (some ⟨nb, 0, none⟩)]) (by simp) ?_
 have HB := aA.mk hb
 have HGP := aA.mk hgp
 have HP := aA.mk hp
 have HO := aA.mk ho
 have HOK := aA.mk hok
 clear hb hgp hp ho hok hnb
 go_enter Tryz.func119, Tryz.ntmps119
 go_wp2_with (first
 |((with_reducible refine aP (N := 3) rfl ?_);
   refine dI ?hg (N := 3) ?hd (cs := #[.nilFunc, .nilFunc, .bool false]) (t := 179) ?hr ?_;
   (case hd => rfl); (case hg => rfl); (case hr => first | (go_simp; done) | (go_simp; rfl));
   intro g3 hg w2 hbox hb2;
   have N3 := aA.mk (show w1.heap.size ≤ g3 by rw [hg]; exact Nat.le_refl _);
   have hc2 := (hb2.cell (World.block_lt_of_cell? w1 _ hc)).trans hc;
   have HB2 := aA.mk hb2; have BK3 := aA.mk hbox; clear hg hbox hb2 hc)
 |fail)
 refine ((ZU W _ gp v l dn fu fa size sd hsd (aX HB.out HB2.out) HGP.out (bD HP.out HB2.out) (Kd.pO HO.out HB2.out) HOK.out).mono ?_)
 rintro e w4 ⟨rv, dv, rfl, hb4, ⟨Kr, cr, rfl, hKr, hrf⟩, ⟨Kd_, cd, rfl, hKd, hdo⟩⟩
 have HKr := aA.mk hKr
 have Hrf := aA.mk hrf
 have HKd := aA.mk hKd
 have Hdo := aA.mk hdo
 have HB4 := aA.mk hb4
 have bk := bD BK3.out hb4
 have c0 := (aG bk 0).trans rfl
 have c1 := (aG bk 1).trans rfl
 have c2 := (aG bk 2).trans rfl
 have f0 := aC bk 0
 have f1 := aC bk 1
 have f2 := aC bk 2
 have BK4 := aA.mk bk
 clear hKr hrf hKd hdo hb4 bk
 go_wp2
 refine bodyPost_ret (results_cell_row rfl _ _ g3 179 #[.func (.func Kr) #[] cr, .func (.func Kd_) #[] cd, .bool false] (0, 0) _ rfl (qcw BK4.out _ _ _) Tryz.underlying179 rfl (by kernel_rfl)) rfl ?_
 have hw4 : Below w1.heap.size w1 w4 := aX HB2.out HB4.out
 have hgg : ∀ (k : Nat), k ≠ g3 → (((w4.setCell ⟨g3, 0, none⟩ (.func (.func Kr) #[] cr)).setCell ⟨g3, 1, none⟩ (.func (.func Kd_) #[] cd)).setCell ⟨g3, 2, none⟩ (.bool false)).heap[k]? = w4.heap[k]? := fun k hk =>
  ((Below.heap_setCell _ ⟨g3, 2, none⟩ _ k hk).trans (Below.heap_setCell _ ⟨g3, 1, none⟩ _ k hk)).trans (Below.heap_setCell _ ⟨g3, 0, none⟩ _ k hk)
 refine ⟨_, _, rfl, below3 hw4 N3.out _ _ _, ⟨Kr, cr, rfl, HKr.out, ?_⟩, Kd_, cd, rfl, HKd.out, ?_⟩
 ·intro w5 i b hk hil hib
  refine Hrf.out w5 i b (fun k cs t h1 h2 h3 h4 => hk k cs t h1 h2 h3 ?_) hil hib
  rw [hgg k (fun e => by subst e; exact absurd h4 (ZQ BK4.out h1))]
  exact h4
 ·intro w5 i b dn fu fa hk
  refine Hdo.out w5 i b dn fu fa (fun k cs t h1 h2 h3 h4 => hk k cs t h1 h2 h3 ?_)
  rw [hgg k (fun e => by subst e; exact absurd h4 (ZQ BK4.out h1))]
  exact h4
theorem lX (g k : Nat) (hk : k ≠ g) : ∀ (vs : List Value) (o : Nat) (w : World), (w.setCells g o vs).heap[k]? = w.heap[k]?
 | [], _, _ => rfl
 | v :: r, o, w => by
  rw [World.setCells, lX g k hk r (o + 1)]
  exact Below.heap_setCell w ⟨g, o, none⟩ v k hk
theorem lY {B g : Nat} {w : World} (hB : B ≤ g) : ∀ (vs : List Value) (o : Nat) (W : World), Below B w W → Below B w (W.setCells g o vs)
 | [], _, _, h => h
 | v :: r, o, W, h => lY hB r (o + 1) _ (h.setCell hB v)
def ZV : List Value → Nat → List Value → List Value
 | xs, _, [] => xs
 | xs, o, v :: r => ZV (xs.set o v) (o + 1) r
theorem wG : ∀ (vs xs : List Value) (o : Nat), o + vs.length ≤ xs.length → ZV xs o vs = xs.take o ++ vs ++ xs.drop (o + vs.length)
 | [], xs, o, h => by simp [ZV]
 | v :: r, xs, o, h => by
  simp only [List.length_cons] at h
  rw [ZV, wG r (xs.set o v) (o + 1) (by rw [List.length_set]; omega)]
  rw [List.take_set, List.drop_set_of_lt (by omega), List.length_cons, show o + 1 + r.length = o + (r.length + 1) by omega]
  have h1 : (xs.take (o + 1)).set o v = xs.take o ++ [v] := by
   rw [List.take_succ_eq_append_getElem (by omega), List.set_append_right _ _ (by rw [List.length_take]; omega)]
   rw [List.length_take, show o - min o xs.length = 0 by omega]
   rfl
  rw [h1]
  simp
theorem kW (g t : Nat) : ∀ (vs : List Value) (o : Nat) (w : World) (cur : Array Value), w.heap[g]? = some (.cells cur t (0, 0)) → ∃ cur', (w.setCells g o vs).heap[g]? = some (.cells cur' t (0, 0)) ∧ cur'.size = cur.size ∧ cur'.toList = ZV cur.toList o vs
 | [], o, w, cur, h => ⟨cur, h, rfl, rfl⟩
 | v :: r, o, w, cur, h => by
  obtain ⟨cur', h1, h2, h3⟩ := kW g t r (o + 1) (w.setCell ⟨g, o, none⟩ v) (cur.setIfInBounds o v) (CY h o v)
  exact ⟨cur', h1, by simpa using h2, by rw [h3]; simp [ZV]⟩
theorem qd7 (w : World) : (zeroValue 67).run Tryz.prog w = .ok (.agg #[.string ⟨#[]⟩, .string ⟨#[]⟩, .int .i64 0]) w := by kernel_rfl
theorem RP (w : World) (ty g o c : Nat) (hc : ∀ j, j < 3 → (w.cell? ⟨g, o + j, none⟩).isSome = true) (hf : ∀ j, j < 3 → w.frozen? ⟨g, o + j, none⟩ = false) :
  (Builtin.clear_ #[25] ty #[.slice (some ⟨g, o, none⟩) 1 c]).run Tryz.prog w = .ok (.tuple #[]) (w.setCells g o [.string ⟨#[]⟩, .string ⟨#[]⟩, .int .i64 0]) := by
 have hzc : (Builtin.zeroCells (Value.agg #[.string ⟨#[]⟩, .string ⟨#[]⟩, .int .i64 0]).cells 1).toList = [.string ⟨#[]⟩, .string ⟨#[]⟩, .int .i64 0] := by kernel_rfl
 have hst := run_storeCells_cells (P := Tryz.prog) g o [.string ⟨#[]⟩, .string ⟨#[]⟩, .int .i64 0] 0 w (by simpa using hc) (by simpa using hf) (by intro v hv'; simp at hv'; rcases hv' with rfl | rfl | rfl <;> rfl)
 simp only [Nat.add_zero] at hst
 simp [Builtin.clear_, run_underlying Tryz.underlying25, qd7, hzc, hst]
set_option maxHeartbeats 8000000 in
theorem AB (w : World) (base : Nat) (l : List S67) (g c : Nat) (i m : Nat) (hl : l.length = i + m + 1) (hn : l.length ≤ 64) (ho : Kd.R k67 67 w base (fun _ => True) (.slice (some ⟨g, 0, none⟩) l.length c) l) :
  Calls Tryz.prog 162 #[.slice (some ⟨g, 0, none⟩) (i + m + 1) c, .int .i64 (i : Int), .int .i64 ((i : Int) + 1)] w fun e w4 => e = .returned (.slice (some ⟨g, 0, none⟩) (i + m) c) ∧
   Kd.R k67 67 w4 base (fun _ => True) (.slice (some ⟨g, 0, none⟩) (i + m) c) (l.take i ++ l.drop (i + 1)) ∧ Below base w w4 ∧ ∀ k, k ≠ g → w4.heap[k]? = w.heap[k]? := by
 obtain ⟨g', cur, e, _, hg, hh, h3, h4, h5, h6⟩ := lW ho (by omega)
 injection e with e
 injection e with e
 subst e
 obtain ⟨i0, hi0, hz0, hz1, hz2⟩ := DJ
 have hic : i + m + 1 ≤ c := by omega
 have him : i + m + 1 ≤ 64 := by omega
 have hi7 : i ≤ c := by omega
 have hcm : c ≤ 9223372036854775807 := by unfold maxLen at h4; omega
 have hne : ((i : Int) == (i : Int) + 1) = false := by simp; omega
 have HL := aA.mk hl
 have HI0 := aA.mk hi0
 have HZ1 := aA.mk hz1
 have HH := aA.mk hh
 have H6 := aA.mk h6
 have HG := aA.mk hg
 have H5 := aA.mk h5
 have hnews : aA ((cellsOf (l.drop (i + 1))).length = m * 3) := ⟨by rw [cellsOf_length, List.length_drop]; omega⟩
 have hspare : aA (∀ j, j < (cellsOf (l.drop (i + 1))).length → (w.drew.cell? ⟨g, 0 + i * 3 + j, none⟩).isSome = true ∧ w.drew.frozen? ⟨g, 0 + i * 3 + j, none⟩ = false) := ⟨fun j hj => by
  rw [hnews.out] at hj
  refine ⟨?_, aC (bI hh) _⟩
  rw [aG (bI hh), Array.getElem?_eq_getElem (by omega)]
  rfl⟩
 have hcell : aA (∀ j u, (cellsOf (l.drop (i + 1)))[j]? = some u → w.drew.cell? ⟨g, (i + 1) * 3 + j, none⟩ = some u) := ⟨fun j u hu => by
  rw [lC, List.getElem?_drop] at hu
  exact kC (bI hh) h6 hu⟩
 clear hl hi0 hz0 hz1 hz2 hh h6 hg h5 h4 h3 ho hn
 have hend : ∀ W : World, W = (w.drew.setCells g (0 + i * 3) (cellsOf (l.drop (i + 1)))) → aA ((∀ j, j < 3 → (W.cell? ⟨g, (i + m) * 3 + j, none⟩).isSome = true) ∧ (∀ j, j < 3 → W.frozen? ⟨g, (i + m) * 3 + j, none⟩ = false) ∧
   Kd.R k67 67 (W.setCells g ((i + m) * 3) [.string ⟨#[]⟩, .string ⟨#[]⟩, .int .i64 0]) base (fun _ => True) (.slice (some ⟨g, 0, none⟩) (i + m) c) (l.take i ++ l.drop (i + 1)) ∧ Below base w (W.setCells g ((i + m) * 3) [.string ⟨#[]⟩, .string ⟨#[]⟩, .int .i64 0]) ∧
   ∀ k, k ≠ g → (W.setCells g ((i + m) * 3) [.string ⟨#[]⟩, .string ⟨#[]⟩, .int .i64 0]).heap[k]? = w.heap[k]?) := by
  rintro W rfl
  obtain ⟨qd8, hc1, hs1, hl1⟩ := kW g 67 (cellsOf (l.drop (i + 1))) (0 + i * 3) w.drew cur (bI HH.out)
  obtain ⟨qd9, hc2, hs2, hl2⟩ := kW g 67 [.string ⟨#[]⟩, .string ⟨#[]⟩, .int .i64 0] ((i + m) * 3) _ qd8 hc1
  have hsz : cur.size = c * 3 := H5.out
  have hct : cur.toList.length = c * 3 := by simpa using hsz
  refine ⟨fun j hj => ?_, fun j hj => aC hc1 _, ?_, ?_, fun k hk => ?_⟩
  ·rw [aG hc1, Array.getElem?_eq_getElem (by omega)]
   rfl
  ·have hlen : (l.take i ++ l.drop (i + 1)).length = i + m := by rw [List.length_append, List.length_take, List.length_drop, HL.out]; omega
   refine oL ⟨by rw [cellsOf_length], .inr ⟨g, c, qd9, by rw [hlen], HG.out, hc2, by omega, ?_, by omega, ?_⟩⟩
   ·unfold maxLen; omega
   ·rw [hl2, hl1, hlen, wG _ _ _ (by
     rw [wG _ _ _ (by rw [hnews.out, hct]; omega)]
     simp [hct, hnews.out]; omega)]
    rw [wG _ _ _ (by rw [hnews.out, hct]; omega), pW, jU, hnews.out, Nat.zero_add]
    have h6 := H6.out
    have e1 : cur.toList.take (i * 3) = (cellsOf l).take (i * 3) := by rw [← h6, List.take_take]; congr 1; rw [HL.out]; omega
    have e2 : (cur.toList.take (i * 3) ++ cellsOf (l.drop (i + 1))).length = (i + m) * 3 := by rw [List.length_append, List.length_take, hnews.out, hct]; omega
    rw [List.append_assoc, List.take_append_of_le_length (by rw [List.length_take, List.length_append, List.length_append, List.length_take, hnews.out, hct, List.length_drop, hct]; omega)]
    rw [List.take_take, Nat.min_self, List.take_append_of_le_length (by omega), ← e2, List.take_length, e1]
  ·exact lY HG.out _ _ _ (lY HG.out _ _ _ (fH (Below.refl base w)))
  ·rw [lX g k hk, lX g k hk]
   rfl
 have AL := aA.mk hend
 clear hend
 have OM : ∀ (ty c' : Nat) (W : World), W = (w.drew.setCells g (0 + i * 3) (cellsOf (l.drop (i + 1)))) → (Builtin.clear_ #[25] ty #[.slice (some ⟨g, (i + m) * 3, none⟩) 1 c']).run Tryz.prog W = .ok (.tuple #[]) (W.setCells g ((i + m) * 3) [.string ⟨#[]⟩, .string ⟨#[]⟩, .int .i64 0]) := fun ty c' W hW =>
  RP W ty g ((i + m) * 3) c' ((AL.out W hW).out.1) ((AL.out W hW).out.2.1)
 have JV := aA.mk OM
 clear OM
 by_cases hci : c = i + 1
 ·have hm0 : m = 0 := by omega
  subst hm0
  subst hci
  simp only [Nat.add_zero] at AL JV HL hic him ⊢
  have z1 : (i : Int) ≤ (i : Int) + 1 := by omega
  have z2 : (0 : Int) ≤ (i : Int) + 1 := by omega
  go_enter Tryz.func162, Tryz.ntmps162
  go_wp2
  refine gX (n := 8) (S := fun w' => True) (ds := []) #[false, false, false, false, false, false, false, false] (by kernel_rfl) rfl rfl trivial (fun hHeld => ?_)
  refine puS (i := 0) (N := some 20) (v := ?_) (a' := ?_) rfl rfl (by kernel_rfl) (fun _ _ _ h => h) (Or.inl ⟨by rfl, ?_⟩) ?_ ?_
  rotate_left
  ·intro w'
   go_simp
   with_reducible rfl
  rotate_left
  ·simp only [Act.put, zA, zZ, zS, aH, aI]
   rfl
  refine puS (i := 1) (N := some 21) (v := ?_) (a' := ?_) rfl rfl (by kernel_rfl) (fun _ _ _ h => h) (Or.inl ⟨by rfl, ?_⟩) ?_ ?_
  rotate_left
  ·intro w'
   go_simp
   with_reducible rfl
  rotate_left
  ·simp only [Act.put, zA, zZ, zS, aH, aI]
   rfl
  refine puS (i := 2) (N := some 22) (v := ?_) (a' := ?_) rfl rfl (by kernel_rfl) (fun _ _ _ h => h) (Or.inl ⟨by rfl, ?_⟩) ?_ ?_
  rotate_left
  ·intro w'
   go_simp
   with_reducible rfl
  rotate_left
  ·simp only [Act.put, zA, zZ, zS, aH, aI]
   rfl
  refine puS (i := 3) (N := some 23) (v := ?_) (a' := ?_) rfl rfl (by kernel_rfl) (fun _ _ _ h => h) (Or.inl ⟨by rfl, ?_⟩) ?_ ?_
  rotate_left
  ·intro w'
   go_simp
   with_reducible rfl
  rotate_left
  ·simp only [Act.put, zA, zZ, zS, aH, aI]
   rfl
  refine puS (i := 4) (N := some 24) (v := ?_) (a' := ?_) rfl rfl (by kernel_rfl) (fun _ _ _ h => h) (Or.inl ⟨by rfl, ?_⟩) ?_ ?_
  rotate_left
  ·intro w'
   go_simp
   with_reducible rfl
  rotate_left
  ·simp only [Act.put, zA, zZ, zS, aH, aI]
   rfl
  refine puS (i := 5) (N := some 25) (v := ?_) (a' := ?_) rfl rfl (by kernel_rfl) (fun _ _ _ h => h) (Or.inl ⟨by rfl, ?_⟩) ?_ ?_
  rotate_left
  ·intro w'
   go_simp
   with_reducible rfl
  rotate_left
  ·simp only [Act.put, zA, zZ, zS, aH, aI]
   rfl
  refine onS (i := 6) (N := some 26) rfl rfl (by kernel_rfl) (by decide) (fun K hK => ?_)
  refine step_append_room rfl (.tmp 22) (.tmp 25) 25 rfl 67 i0 3 Tryz.underlying25 HI0.out HZ1.out g 0 i (i + 1) rfl ⟨g, 0, none⟩ 0 0 (cellsOf (l.drop (i + 1))) rfl hnews.out ?ncz (qU _) (by omega) hspare.out ?_
  case ncz => intro j u hu; exact absurd (List.getElem?_eq_some_iff.1 hu).1 (by rw [hnews.out]; omega)
  refine hK.out _ _ trivial (fun hHeld => ?_)
  clear hK K
  refine fU (a' := ?_) ?_ ?_
  rotate_left
  ·show Act.put _ (some 26) _ = _
   simp only [Act.put, zA, zZ, zS, aH, aI]
   rfl
  refine puS (i := 7) (N := some 0) (v := ?_) (a' := ?_) rfl rfl (by kernel_rfl) (fun _ _ _ h => h) (Or.inl ⟨by rfl, ?_⟩) ?_ ?_
  rotate_left
  ·intro w'
   go_simp
   with_reducible rfl
  rotate_left
  ·simp only [Act.put, zA, zZ, zS, aH, aI]
   rfl
  refine jM (by kernel_rfl) ?_
  obtain ⟨W, hW⟩ : ∃ W, W = (w.drew.setCells g (0 + i * 3) (cellsOf (l.drop (i + 1)))) := ⟨_, rfl⟩
  rw [← hW]
  have OM := fun ty c' => JV.out ty c' W hW
  have HW := AL.out W hW
  clear hW AL JV hHeld
  go_wp2
  go_ret
  exact ⟨rfl, HW.out.2.2.1, HW.out.2.2.2.1, HW.out.2.2.2.2⟩
 ·have z2 : (0 : Int) ≤ (i : Int) + 1 := by omega
  have z3 : (i : Int) + 1 ≤ (i : Int) + (m : Int) + 1 := by omega
  have z4 : i + 1 ≤ c := by omega
  have z5 : (i : Int) + 1 ≤ (c : Int) := by omega
  go_enter Tryz.func162, Tryz.ntmps162
  go_wp2
  refine gX (n := 8) (S := fun w' => True) (ds := []) #[false, false, false, false, false, false, false, false] (by kernel_rfl) rfl rfl trivial (fun hHeld => ?_)
  refine puS (i := 0) (N := some 20) (v := ?_) (a' := ?_) rfl rfl (by kernel_rfl) (fun _ _ _ h => h) (Or.inl ⟨by rfl, ?_⟩) ?_ ?_
  rotate_left
  ·intro w'
   go_simp
   with_reducible rfl
  rotate_left
  ·simp only [Act.put, zA, zZ, zS, aH, aI]
   rfl
  refine puS (i := 1) (N := some 21) (v := ?_) (a' := ?_) rfl rfl (by kernel_rfl) (fun _ _ _ h => h) (Or.inl ⟨by rfl, ?_⟩) ?_ ?_
  rotate_left
  ·intro w'
   go_simp
   with_reducible rfl
  rotate_left
  ·simp only [Act.put, zA, zZ, zS, aH, aI]
   rfl
  refine puS (i := 2) (N := some 22) (v := ?_) (a' := ?_) rfl rfl (by kernel_rfl) (fun _ _ _ h => h) (Or.inl ⟨by rfl, ?_⟩) ?_ ?_
  rotate_left
  ·intro w'
   go_simp
   with_reducible rfl
  rotate_left
  ·simp only [Act.put, zA, zZ, zS, aH, aI]
   rfl
  refine puS (i := 3) (N := some 23) (v := ?_) (a' := ?_) rfl rfl (by kernel_rfl) (fun _ _ _ h => h) (Or.inl ⟨by rfl, ?_⟩) ?_ ?_
  rotate_left
  ·intro w'
   go_simp
   with_reducible rfl
  rotate_left
  ·simp only [Act.put, zA, zZ, zS, aH, aI]
   rfl
  refine puS (i := 4) (N := some 24) (v := ?_) (a' := ?_) rfl rfl (by kernel_rfl) (fun _ _ _ h => h) (Or.inl ⟨by rfl, ?_⟩) ?_ ?_
  rotate_left
  ·intro w'
   go_simp
   with_reducible rfl
  rotate_left
  ·simp only [Act.put, zA, zZ, zS, aH, aI]
   rfl
  refine puS (i := 5) (N := some 25) (v := ?_) (a' := ?_) rfl rfl (by kernel_rfl) (fun _ _ _ h => h) (Or.inl ⟨by rfl, ?_⟩) ?_ ?_
  rotate_left
  ·intro w'
   go_simp
   with_reducible rfl
  rotate_left
  ·simp only [Act.put, zA, zZ, zS, aH, aI]
   rfl
  refine onS (i := 6) (N := some 26) rfl rfl (by kernel_rfl) (by decide) (fun K hK => ?_)
  refine step_append_room rfl (.tmp 22) (.tmp 25) 25 rfl 67 i0 3 Tryz.underlying25 HI0.out HZ1.out g 0 i c rfl ⟨g, (i + 1) * 3, none⟩ m (c - (i + 1)) (cellsOf (l.drop (i + 1))) rfl hnews.out ?ncg (qU _) (by omega) hspare.out ?_
  case ncg => intro j u hu; rw [add_plain']; exact hcell.out j u hu
  refine hK.out _ _ trivial (fun hHeld => ?_)
  clear hK K
  refine fU (a' := ?_) ?_ ?_
  rotate_left
  ·show Act.put _ (some 26) _ = _
   simp only [Act.put, zA, zZ, zS, aH, aI]
   rfl
  refine puS (i := 7) (N := some 0) (v := ?_) (a' := ?_) rfl rfl (by kernel_rfl) (fun _ _ _ h => h) (Or.inl ⟨by rfl, ?_⟩) ?_ ?_
  rotate_left
  ·intro w'
   go_simp
   with_reducible rfl
  rotate_left
  ·simp only [Act.put, zA, zZ, zS, aH, aI]
   rfl
  refine jM (by kernel_rfl) ?_
  obtain ⟨W, hW⟩ : ∃ W, W = (w.drew.setCells g (0 + i * 3) (cellsOf (l.drop (i + 1)))) := ⟨_, rfl⟩
  rw [← hW]
  have OM := fun ty c' => JV.out ty c' W hW
  have HW := AL.out W hW
  clear hW AL JV hHeld
  go_wp2
  go_ret
  exact ⟨rfl, HW.out.2.2.1, HW.out.2.2.2.1, HW.out.2.2.2.2⟩
theorem RQ {B : Nat} {w W : World} (h : Below B w.drew W) : Below B w W := ⟨h.os, h.tape, h.output, h.size, h.block⟩
theorem qbh : Enters 161 := fun args w => jS Tryz.func161 (by kernel_rfl) (by kernel_rfl) args w
set_option maxHeartbeats 8000000 in
theorem ZW (gp b1 : Nat) (w : World) (base : Nat) (l : List S67) (A : Option Addr) (c : Nat) (dn : Bool) (fu fa : Int) (i : Nat) (hlt : i < l.length) (hn : l.length ≤ 64) (hb1 : w.heap[b1]? = some (.cells #[.pointer (some ⟨gp, 0, none⟩)] 176 (0, 0)))
  (hp : RH w base gp (.slice A l.length c) l dn fu fa) (qa8 : base ≤ gp) :
  Calls Tryz.prog 161 #[.int .i64 (i : Int), .pointer (some ⟨b1, 0, none⟩)] w (Done w base gp dn fu fa (l.take i ++ l.drop (i + 1))) := by
 obtain ⟨hp, ho⟩ := hp
 obtain ⟨g, cur, rfl, _, hg, hh, h3, h4, h5, h6⟩ := lW ho (by omega)
 obtain ⟨m, hm⟩ : ∃ m, l.length = i + m + 1 := ⟨l.length - i - 1, by omega⟩
 have s1 : w.cell? ⟨b1, 0, none⟩ = some (.pointer (some ⟨gp, 0, none⟩)) := (aG hb1 0).trans rfl
 have s2 : w.cell? ⟨gp, 0, none⟩ = some (.slice (some ⟨g, 0, none⟩) l.length c) := (aG hp 0).trans rfl
 have ngp : gp ≠ g := fun e => gB hh hp (by decide) e.symm
 have ngb : b1 ≠ g := fun e => gB hh hb1 (by decide) e.symm
 obtain ⟨l3, hl3⟩ : ∃ l3, l3 = l.take i ++ l.drop (i + 1) := ⟨_, rfl⟩
 rw [← hl3]
 have HL3 := aA.mk hl3
 have HM := aA.mk hm
 have HO := aA.mk ho
 have HP := aA.mk hp
 have HH := aA.mk hh
 have HB1 := aA.mk hb1
 have NGP := aA.mk ngp
 have NGB := aA.mk ngb
 have HG := aA.mk hg
 have hi0 : (0 : Int) ≤ (i : Int) := by omega
 have hi1 : (i : Int) ≤ 64 := by omega
 clear hl3 hm ho hp hh hb1 ngp ngb h3 h4 h5 h6 hg hlt
 go_enter Tryz.func161, Tryz.ntmps161
 go_wp2
 refine gX (n := 14) (S := fun w' => w'.cell? ⟨b1, 0, none⟩ = some (.pointer (some ⟨gp, 0, none⟩)) ∧ w'.cell? ⟨gp, 0, none⟩ = some (.slice (some ⟨g, 0, none⟩) l.length c)) (ds := [13]) #[false, false, false, false, false, false, false, false, false, false, false, false, false, false] (by kernel_rfl) rfl rfl ⟨s1, s2⟩ (fun hHeld => ?_)
 refine puS (i := 6) (N := some 9) (v := ?_) (a' := ?_) rfl rfl (by kernel_rfl) (fun _ _ _ h => h) (Or.inl ⟨by rfl, ?_⟩) ?_ ?_
 rotate_left
 ·intro w'
  go_simp
  with_reducible rfl
 rotate_left
 ·simp only [Act.put, zA, zZ, zS, aH, aI]
  rfl
 refine puS (i := 7) (N := some 10) (v := ?_) (a' := ?_) rfl rfl (by kernel_rfl) (fun _ _ _ h => h) (Or.inl ⟨by rfl, ?_⟩) ?_ ?_
 rotate_left
 ·intro w'
  go_simp
  with_reducible rfl
 rotate_left
 ·simp only [Act.put, zA, zZ, zS, aH, aI]
  rfl
 refine puS (i := 8) (N := some 11) (v := ?_) (a' := ?_) rfl rfl (by kernel_rfl) (fun _ _ _ h => h) (Or.inl ⟨by rfl, ?_⟩) ?_ ?_
 rotate_left
 ·intro w'
  go_simp
  with_reducible rfl
 rotate_left
 ·simp only [Act.put, zA, zZ, zS, aH, aI]
  rfl
 refine tkS (i := 0) (N := some 3) (v := ?_) (a' := ?_) rfl rfl (by kernel_rfl) (fun _ _ _ h => h) (Or.inl ⟨by rfl, ?_⟩) hHeld ?_ ?_
 rotate_left
 ·rintro w' ⟨s0, s1⟩
  go_simp
  with_reducible rfl
 rotate_left
 ·simp only [Act.put, zA, zZ, zS, aH, aI]
  rfl
 refine tkS (i := 1) (N := some 4) (v := ?_) (a' := ?_) rfl rfl (by kernel_rfl) (fun _ _ _ h => h) (Or.inl ⟨by rfl, ?_⟩) hHeld ?_ ?_
 rotate_left
 ·rintro w' ⟨s0, s1⟩
  go_simp
  with_reducible rfl
 rotate_left
 ·simp only [Act.put, zA, zZ, zS, aH, aI]
  rfl
 refine puS (i := 2) (N := some 5) (v := ?_) (a' := ?_) rfl rfl (by kernel_rfl) (fun _ _ _ h => h) (Or.inl ⟨by rfl, ?_⟩) ?_ ?_
 rotate_left
 ·intro w'
  go_simp
  with_reducible rfl
 rotate_left
 ·simp only [Act.put, zA, zZ, zS, aH, aI]
  rfl
 refine puS (i := 3) (N := some 6) (v := ?_) (a' := ?_) rfl rfl (by kernel_rfl) (fun _ _ _ h => h) (Or.inl ⟨by rfl, ?_⟩) ?_ ?_
 rotate_left
 ·intro w'
  go_simp
  with_reducible rfl
 rotate_left
 ·simp only [Act.put, zA, zZ, zS, aH, aI]
  rfl
 refine puS (i := 4) (N := some 7) (v := ?_) (a' := ?_) rfl rfl (by kernel_rfl) (fun _ _ _ h => h) (Or.inl ⟨by rfl, ?_⟩) ?_ ?_
 rotate_left
 ·intro w'
  go_simp
  with_reducible rfl
 rotate_left
 ·simp only [Act.put, zA, zZ, zS, aH, aI]
  rfl
 refine tkS (i := 5) (N := some 8) (v := ?_) (a' := ?_) rfl rfl (by kernel_rfl) (fun _ _ _ h => h) (Or.inl ⟨by rfl, ?_⟩) hHeld ?_ ?_
 rotate_left
 ·rintro w' ⟨s0, s1⟩
  go_simp
  with_reducible rfl
 rotate_left
 ·simp only [Act.put, zA, zZ, zS, aH, aI]
  rfl
 refine onS (i := 9) (N := some 12) rfl rfl (by kernel_rfl) (by decide) (fun K hK => ?_)
 refine qP Tryz.func162 (by kernel_rfl) rfl #[.slice (some ⟨g, 0, none⟩) l.length c, .int .i64 (i : Int), .int .i64 (wrap64 ((i : Int) + 1))] (by rfl) rfl rfl (by simp only [List.map_toArray, List.map_cons, List.map_nil]; rfl) ?_
 refine (fD (args' := #[.slice (some ⟨g, 0, none⟩) (i + m + 1) c, .int .i64 (i : Int), .int .i64 ((i : Int) + 1)]) (by rw [HM.out, show wrap64 ((i : Int) + 1) = (i : Int) + 1 by unfold wrap64; omega]) (AB w.drew base l g c i m HM.out hn (Kd.qdU HO.out))).mono ?_
 rintro e w4 ⟨rfl, hR, hB, hk⟩
 rw [← HL3.out] at hR
 have HR4 := aA.mk hR
 have HB4 := aA.mk hB
 have hp4 := (hk gp NGP.out).trans HP.out
 have HK4 := aA.mk hk
 have hfr := aC hp4 0
 have HP4 := aA.mk hp4
 have qhV := aA.mk ((hk b1 NGB.out).trans HB1.out)
 clear hR hB hk hp4
 refine ⟨_, rfl, ?_⟩
 refine hK.out _ _ ⟨((aG qhV.out 0).trans rfl), ((aG HP4.out 0).trans rfl)⟩ (fun hHeld => ?_)
 clear hK K
 refine fU (a' := ?_) ?_ ?_
 rotate_left
 ·show Act.put _ (some 12) _ = _
  simp only [Act.put, zA, zZ, zS, aH, aI]
  rfl
 refine puS (i := 10) (N := some 13) (v := ?_) (a' := ?_) rfl rfl (by kernel_rfl) (fun _ _ _ h => h) (Or.inl ⟨by rfl, ?_⟩) ?_ ?_
 rotate_left
 ·intro w'
  go_simp
  with_reducible rfl
 rotate_left
 ·simp only [Act.put, zA, zZ, zS, aH, aI]
  rfl
 refine puS (i := 11) (N := some 14) (v := ?_) (a' := ?_) rfl rfl (by kernel_rfl) (fun _ _ _ h => h) (Or.inl ⟨by rfl, ?_⟩) ?_ ?_
 rotate_left
 ·intro w'
  go_simp
  with_reducible rfl
 rotate_left
 ·simp only [Act.put, zA, zZ, zS, aH, aI]
  rfl
 refine puS (i := 12) (N := some 15) (v := ?_) (a' := ?_) rfl rfl (by kernel_rfl) (fun _ _ _ h => h) (Or.inl ⟨by rfl, ?_⟩) ?_ ?_
 rotate_left
 ·intro w'
  go_simp
  with_reducible rfl
 rotate_left
 ·simp only [Act.put, zA, zZ, zS, aH, aI]
  rfl
 refine laS (i := 13) (N := none) rfl rfl (by kernel_rfl) (by decide) (fun K hK => ?_)
 refine xK (w1 := ?_) (by rfl) rfl ?_ ?_
 rotate_left
 ·go_simp
  rfl
 refine hK.out _ _ ?_
 clear hK K
 refine jM (by kernel_rfl) ?_
 go_end0
 have hlen : l3.length = i + m := by rw [HL3.out, List.length_append, List.length_take, List.length_drop, HM.out]; omega
 refine ⟨rfl, .slice (some ⟨g, 0, none⟩) (i + m) c, fV (cs := #[.slice (some ⟨g, 0, none⟩) l.length c, .bool dn, .int .i64 fu, .int .i64 fa]) HP4.out 0 _ rfl, R1 (j := 0) HR4.out HP4.out (by decide) _, (RQ HB4.out).setCell qa8 _, fun k cs h => ?_⟩
 have hk := gB h HH.out (by decide)
 exact dF (p := ⟨gp, 0, none⟩) ((HK4.out k hk).trans h) (gB h HP.out (by decide)) _
set_option maxHeartbeats 4000000 in
theorem ZX (W : World) (l : List S67) (dn : Bool) (fu fa : Int) (sd : Int → List S67) (hsd : ∀ (i : Nat), i < l.length → sd (i : Int) = l.take i ++ l.drop (i + 1)) :
  OfV W 118 #[] l dn fu fa false (fun _ b => if b = true then 0 else 7) sd := by
 intro w1 gp v hb hgp hp ho hok
 obtain ⟨A, c, rfl⟩ := Kd.dQ ho
 have hlt : gp < w1.heap.size := gG hp
 have hle : l.length ≤ 64 := by
  simp only [bF, Bool.and_eq_true, decide_eq_true_eq] at hok
  exact hok.2
 go_enter Tryz.func118, Tryz.ntmps118
 go_wp2
 refine bodyPost_ret (results_cell_row rfl _ _ (w1.heap.size + 1) 179 #[.func (.func 160) #[] #[], .func (.func 161) #[] #[.pointer (some ⟨w1.heap.size, 0, none⟩)], .bool false] (0, 0) _ rfl (new2 w1 _ _) Tryz.underlying179 rfl (by kernel_rfl)) rfl ?_
 refine ⟨_, _, rfl, aQ (aQ (Below.refl _ _) _) _, ⟨160, #[], rfl, RG, fun w3 i b _ _ _ => fD (by simp) ((o7 i b w3).mono ?_)⟩, 161, _, rfl, qbh, fun w3 i b dn fu fa hk hil hib hrf hp3 ho3 => ?_⟩
 ·rintro e w4 ⟨rfl, rfl⟩
  exact ⟨rfl, Below.refl _ _⟩
 ·have hbt : b = true := by
   cases b
   ·simp at hrf
   ·rfl
  refine fD (by simp) ((ZW gp w1.heap.size w3 W.heap.size l A c dn fu fa i (hib hbt) hle (hk _ _ _ (by decide) (by decide) (fun h => by injection h with h; omega) (new1 w1 _ _)) ⟨hp3, ho3⟩ hgp).mono fun e w4 h => ?_)
  rw [hsd i (hib hbt)]
  exact h
def qV.f (aW : List (S67)) (bV : Bool) (bW : Int) (bY : Int) (a1 : ByteArray) : Option ((List (S67)) × Bool × Int × Int × Int) := some (bU aW bV bW bY a1 false (rfC a1 aW.length) (fun i => aW.take i.toNat ++ [(⟨a1, ⟨#[]⟩, 0⟩ : S67)] ++ aW.drop i.toNat))
set_option maxHeartbeats 4000000 in
theorem qV.calls (dO : Option Addr) (dP : Nat) (aW : List (S67)) (bV : Bool) (bW : Int) (bY : Int) (a1 : ByteArray) (r1 : List (S67)) (r2 : Bool) (r3 : Int) (r4 : Int) (r5 : Int) (w : World) (jP : Kd.C k67 w dO aW.length aW) (lI : aW.length ≤ dP) (h : qV.f aW bV bW bY a1 = some (r1, r2, r3, r4, r5)) :
  Calls Tryz.prog 80 #[.agg #[.slice dO aW.length dP, .bool bV, .int .i64 bW, .int .i64 bY], .string a1] w fun e w' => ∃ v0_ : Value, e = .returned (.tuple #[.agg #[v0_, .bool r2, .int .i64 r3, .int .i64 r4], .int .i64 r5]) ∧ Kd.R k67 67 w' w.heap.size (fun _ => True) v0_ r1 ∧ Below w.heap.size w w' := by
 unfold qV.f at h
 have HE := aA.mk (Option.some.inj h)
 clear h
 have HR := aA.mk jP
 have HC := aA.mk lI
 clear jP lI
 have HB := aA.mk (Below.refl w.heap.size w)
 go_enter Tryz.func80, Tryz.ntmps80
 go_wp2_with (first
 |((with_reducible refine aP (N := 2) rfl ?_);
   refine dI ?hg (N := 2) ?hd (cs := #[.slice dO aW.length dP, .bool bV, .int .i64 bW, .int .i64 bY]) (t := 27) ?hr ?_;
   (case hd => rfl); (case hg => rfl); (case hr => first | (go_simp; done) | (go_simp; rfl));
   intro gd hg w1 hbox hb;
   have n0_ := aA.mk (aX HB.out hb);
   clear HB; have HB := n0_; have BKD := aA.mk hbox; clear n0_ hg hbox hb)
 |((with_reducible refine aP (N := 3) rfl ?_);
   refine dI ?hg (N := 3) ?hd (cs := #[.string a1]) (t := 9) ?hr ?_;
   (case hd => rfl); (case hg => rfl); (case hr => first | (go_simp; done) | (go_simp; rfl));
   intro gn hg w2 hbox hb;
   have n0_ := aA.mk (aX HB.out hb); have n1_ := aA.mk (bD BKD.out hb);
   clear HB BKD; have HB := n0_; have BKD := n1_; have BKN := aA.mk hbox; clear n0_ n1_ hg hbox hb)
 |((with_reducible refine aP (N := 4) rfl ?_);
   refine dI ?hg (N := 4) ?hd (cs := #[.slice none 0 0, .bool false, .int .i64 0, .int .i64 0]) (t := 27) ?hr ?_;
   (case hd => rfl); (case hg => rfl); (case hr => first | (go_simp; done) | (go_simp; rfl));
   intro gr hg w3 hbox hb;
   have n0_ := aA.mk (aX HB.out hb); have n1_ := aA.mk (bD BKD.out hb); have n2_ := aA.mk (bD BKN.out hb);
   have GR := aA.mk (show w.heap.size ≤ gr by rw [hg]; exact HB.out.size);
   clear HB BKD BKN; have HB := n0_; have BKD := n1_; have BKN := n2_; have BKR := aA.mk hbox; clear n0_ n1_ n2_ hg hbox hb;
   have d0 : w3.cell? ⟨gd, 0, none⟩ = some (.slice dO aW.length dP) := (aG BKD.out 0).trans rfl;
   have d1 : w3.cell? ⟨gd, 1, none⟩ = some (.bool bV) := (aG BKD.out 1).trans rfl;
   have d2 : w3.cell? ⟨gd, 2, none⟩ = some (.int .i64 bW) := (aG BKD.out 2).trans rfl;
   have d3 : w3.cell? ⟨gd, 3, none⟩ = some (.int .i64 bY) := (aG BKD.out 3).trans rfl; have dn : w3.cell? ⟨gn, 0, none⟩ = some (.string a1) := (aG BKN.out 0).trans rfl)
 |fail)
 refine ((qR 124 _ (fun args w => jS Tryz.func124 (by kernel_rfl) (by kernel_rfl) args w) dO dP aW bV bW bY a1 w3 (Kd.fC HR.out HB.out) HC.out false (rfC a1 aW.length) (fun i => aW.take i.toNat ++ [(⟨a1, ⟨#[]⟩, 0⟩ : S67)] ++ aW.drop i.toNat) ?hof).mono ?_)
 case hof => exact ZT w3 gn aW bV bW bY a1 _ (fun i hi => by simp) BKN.out
 rw [HE.out]
 rintro e w4 ⟨v, rfl, ho, hb⟩
 have HO := aA.mk (Kd.rX ho HB.out.size)
 obtain ⟨A4, c4, e4⟩ := Kd.dQ ho
 subst e4
 have n0_ := aA.mk (aX HB.out hb)
 have bk := bD BKR.out hb
 have c0 := (aG bk 0).trans rfl
 have c1 := (aG bk 1).trans rfl
 have c2 := (aG bk 2).trans rfl
 have c3 := (aG bk 3).trans rfl
 have f0 := aC bk 0
 have f1 := aC bk 1
 have f2 := aC bk 2
 have f3 := aC bk 3
 have BK4 := aA.mk bk
 clear ho hb bk HB BKD BKR d0 d1 d2 d3 BKN dn
 go_wp2
 refine bodyPost_ret (fJ rfl _ _ gr 27 #[.slice A4 r1.length c4, .bool r2, .int .i64 r3, .int .i64 r4] (0, 0) _ rfl (uZ BK4.out _ _ _ _) Tryz.underlying27 rfl (by kernel_rfl)) rfl ?_
 exact ⟨_, rfl, R4 HO.out BK4.out (by decide) _ _ _ _, kH n0_.out GR.out _ _ _ _⟩
def qW.f (aW : List (S67)) (bV : Bool) (bW : Int) (bY : Int) (a1 : ByteArray) (a2 : ByteArray) : Option ((List (S67)) × Bool × Int × Int × Int) := some (bU aW bV bW bY a1 true (rfW a2 aW) (fun i => aW.set i.toNat ⟨(dX aW i).f0, (dX aW i).f1 ++ a2, (dX aW i).f2⟩))
set_option maxHeartbeats 4000000 in
theorem qW.calls (dO : Option Addr) (dP : Nat) (aW : List (S67)) (bV : Bool) (bW : Int) (bY : Int) (a1 : ByteArray) (a2 : ByteArray) (r1 : List (S67)) (r2 : Bool) (r3 : Int) (r4 : Int) (r5 : Int) (w : World) (jP : Kd.C k67 w dO aW.length aW) (lI : aW.length ≤ dP) (h : qW.f aW bV bW bY a1 a2 = some (r1, r2, r3, r4, r5)) :
  Calls Tryz.prog 82 #[.agg #[.slice dO aW.length dP, .bool bV, .int .i64 bW, .int .i64 bY], .string a1, .string a2] w fun e w' => ∃ v0_ : Value, e = .returned (.tuple #[.agg #[v0_, .bool r2, .int .i64 r3, .int .i64 r4], .int .i64 r5]) ∧ Kd.R k67 67 w' w.heap.size (fun _ => True) v0_ r1 ∧ Below w.heap.size w w' := by
 unfold qW.f at h
 have HE := aA.mk (Option.some.inj h)
 clear h
 have HR := aA.mk jP
 have HC := aA.mk lI
 clear jP lI
 have HB := aA.mk (Below.refl w.heap.size w)
 go_enter Tryz.func82, Tryz.ntmps82
 go_wp2_with (first
 |((with_reducible refine aP (N := 3) rfl ?_);
   refine dI ?hg (N := 3) ?hd (cs := #[.slice dO aW.length dP, .bool bV, .int .i64 bW, .int .i64 bY]) (t := 27) ?hr ?_;
   (case hd => rfl); (case hg => rfl); (case hr => first | (go_simp; done) | (go_simp; rfl));
   intro gd hg w1 hbox hb;
   have n0_ := aA.mk (aX HB.out hb);
   clear HB; have HB := n0_; have BKD := aA.mk hbox; clear n0_ hg hbox hb)
 |((with_reducible refine aP (N := 5) rfl ?_);
   refine dI ?hg (N := 5) ?hd (cs := #[.string a2]) (t := 9) ?hr ?_;
   (case hd => rfl); (case hg => rfl); (case hr => first | (go_simp; done) | (go_simp; rfl));
   intro gn hg w2 hbox hb;
   have n0_ := aA.mk (aX HB.out hb); have n1_ := aA.mk (bD BKD.out hb);
   clear HB BKD; have HB := n0_; have BKD := n1_; have BKN := aA.mk hbox; clear n0_ n1_ hg hbox hb)
 |((with_reducible refine aP (N := 6) rfl ?_);
   refine dI ?hg (N := 6) ?hd (cs := #[.slice none 0 0, .bool false, .int .i64 0, .int .i64 0]) (t := 27) ?hr ?_;
   (case hd => rfl); (case hg => rfl); (case hr => first | (go_simp; done) | (go_simp; rfl));
   intro gr hg w3 hbox hb;
   have n0_ := aA.mk (aX HB.out hb); have n1_ := aA.mk (bD BKD.out hb); have n2_ := aA.mk (bD BKN.out hb);
   have GR := aA.mk (show w.heap.size ≤ gr by rw [hg]; exact HB.out.size);
   clear HB BKD BKN; have HB := n0_; have BKD := n1_; have BKN := n2_; have BKR := aA.mk hbox; clear n0_ n1_ n2_ hg hbox hb;
   have d0 : w3.cell? ⟨gd, 0, none⟩ = some (.slice dO aW.length dP) := (aG BKD.out 0).trans rfl;
   have d1 : w3.cell? ⟨gd, 1, none⟩ = some (.bool bV) := (aG BKD.out 1).trans rfl;
   have d2 : w3.cell? ⟨gd, 2, none⟩ = some (.int .i64 bW) := (aG BKD.out 2).trans rfl;
   have d3 : w3.cell? ⟨gd, 3, none⟩ = some (.int .i64 bY) := (aG BKD.out 3).trans rfl; have dn : w3.cell? ⟨gn, 0, none⟩ = some (.string a2) := (aG BKN.out 0).trans rfl)
 |fail)
 refine ((qR 128 _ (fun args w => jS Tryz.func128 (by kernel_rfl) (by kernel_rfl) args w) dO dP aW bV bW bY a1 w3 (Kd.fC HR.out HB.out) HC.out true (rfW a2 aW) (fun i => aW.set i.toNat ⟨(dX aW i).f0, (dX aW i).f1 ++ a2, (dX aW i).f2⟩) ?hof).mono ?_)
 case hof => exact qbe w3 gn aW bV bW bY a2 _ (fun i x hx hs => by simp only [Int.toNat_natCast]; rw [iC hx]) BKN.out
 rw [HE.out]
 rintro e w4 ⟨v, rfl, ho, hb⟩
 have HO := aA.mk (Kd.rX ho HB.out.size)
 obtain ⟨A4, c4, e4⟩ := Kd.dQ ho
 subst e4
 have n0_ := aA.mk (aX HB.out hb)
 have bk := bD BKR.out hb
 have c0 := (aG bk 0).trans rfl
 have c1 := (aG bk 1).trans rfl
 have c2 := (aG bk 2).trans rfl
 have c3 := (aG bk 3).trans rfl
 have f0 := aC bk 0
 have f1 := aC bk 1
 have f2 := aC bk 2
 have f3 := aC bk 3
 have BK4 := aA.mk bk
 clear ho hb bk HB BKD BKR d0 d1 d2 d3 BKN dn
 go_wp2
 refine bodyPost_ret (fJ rfl _ _ gr 27 #[.slice A4 r1.length c4, .bool r2, .int .i64 r3, .int .i64 r4] (0, 0) _ rfl (uZ BK4.out _ _ _ _) Tryz.underlying27 rfl (by kernel_rfl)) rfl ?_
 exact ⟨_, rfl, R4 HO.out BK4.out (by decide) _ _ _ _, kH n0_.out GR.out _ _ _ _⟩
def xP.f (aW : List (S67)) (bV : Bool) (bW : Int) (bY : Int) (a1 : ByteArray) (a2 : Int) : Option ((List (S67)) × Bool × Int × Int × Int) := some (bU aW bV bW bY a1 false (rfT a2 aW) (fun i => aW.set i.toNat ⟨(dX aW i).f0, (dX aW i).f1.extract 0 a2.toNat, a2⟩))
set_option maxHeartbeats 4000000 in
theorem xP.calls (dO : Option Addr) (dP : Nat) (aW : List (S67)) (bV : Bool) (bW : Int) (bY : Int) (a1 : ByteArray) (a2 : Int) (r1 : List (S67)) (r2 : Bool) (r3 : Int) (r4 : Int) (r5 : Int) (w : World) (jP : Kd.C k67 w dO aW.length aW) (lI : aW.length ≤ dP) (h : xP.f aW bV bW bY a1 a2 = some (r1, r2, r3, r4, r5)) :
  Calls Tryz.prog 74 #[.agg #[.slice dO aW.length dP, .bool bV, .int .i64 bW, .int .i64 bY], .string a1, .int .i64 a2] w fun e w' => ∃ v0_ : Value, e = .returned (.tuple #[.agg #[v0_, .bool r2, .int .i64 r3, .int .i64 r4], .int .i64 r5]) ∧ Kd.R k67 67 w' w.heap.size (fun _ => True) v0_ r1 ∧ Below w.heap.size w w' := by
 unfold xP.f at h
 have HE := aA.mk (Option.some.inj h)
 clear h
 have HR := aA.mk jP
 have HC := aA.mk lI
 clear jP lI
 have HB := aA.mk (Below.refl w.heap.size w)
 go_enter Tryz.func74, Tryz.ntmps74
 go_wp2_with (first
 |((with_reducible refine aP (N := 3) rfl ?_);
   refine dI ?hg (N := 3) ?hd (cs := #[.slice dO aW.length dP, .bool bV, .int .i64 bW, .int .i64 bY]) (t := 27) ?hr ?_;
   (case hd => rfl); (case hg => rfl); (case hr => first | (go_simp; done) | (go_simp; rfl));
   intro gd hg w1 hbox hb;
   have n0_ := aA.mk (aX HB.out hb);
   clear HB; have HB := n0_; have BKD := aA.mk hbox; clear n0_ hg hbox hb)
 |((with_reducible refine aP (N := 5) rfl ?_);
   refine dI ?hg (N := 5) ?hd (cs := #[.int .i64 a2]) (t := 3) ?hr ?_;
   (case hd => rfl); (case hg => rfl); (case hr => first | (go_simp; done) | (go_simp; rfl));
   intro gn hg w2 hbox hb;
   have n0_ := aA.mk (aX HB.out hb); have n1_ := aA.mk (bD BKD.out hb);
   clear HB BKD; have HB := n0_; have BKD := n1_; have BKN := aA.mk hbox; clear n0_ n1_ hg hbox hb)
 |((with_reducible refine aP (N := 6) rfl ?_);
   refine dI ?hg (N := 6) ?hd (cs := #[.slice none 0 0, .bool false, .int .i64 0, .int .i64 0]) (t := 27) ?hr ?_;
   (case hd => rfl); (case hg => rfl); (case hr => first | (go_simp; done) | (go_simp; rfl));
   intro gr hg w3 hbox hb;
   have n0_ := aA.mk (aX HB.out hb); have n1_ := aA.mk (bD BKD.out hb); have n2_ := aA.mk (bD BKN.out hb);
   have GR := aA.mk (show w.heap.size ≤ gr by rw [hg]; exact HB.out.size);
   clear HB BKD BKN; have HB := n0_; have BKD := n1_; have BKN := n2_; have BKR := aA.mk hbox; clear n0_ n1_ n2_ hg hbox hb;
   have d0 : w3.cell? ⟨gd, 0, none⟩ = some (.slice dO aW.length dP) := (aG BKD.out 0).trans rfl;
   have d1 : w3.cell? ⟨gd, 1, none⟩ = some (.bool bV) := (aG BKD.out 1).trans rfl;
   have d2 : w3.cell? ⟨gd, 2, none⟩ = some (.int .i64 bW) := (aG BKD.out 2).trans rfl;
   have d3 : w3.cell? ⟨gd, 3, none⟩ = some (.int .i64 bY) := (aG BKD.out 3).trans rfl; have dn : w3.cell? ⟨gn, 0, none⟩ = some (.int .i64 a2) := (aG BKN.out 0).trans rfl)
 |fail)
 refine ((qR 119 _ (fun args w => jS Tryz.func119 (by kernel_rfl) (by kernel_rfl) args w) dO dP aW bV bW bY a1 w3 (Kd.fC HR.out HB.out) HC.out false (rfT a2 aW) (fun i => aW.set i.toNat ⟨(dX aW i).f0, (dX aW i).f1.extract 0 a2.toNat, a2⟩) ?hof).mono ?_)
 case hof => exact qd6 w3 gn aW bV bW bY a2 _ (fun i n x hx he hn => by subst he; simp only [Int.toNat_natCast]; rw [iC hx]) BKN.out
 rw [HE.out]
 rintro e w4 ⟨v, rfl, ho, hb⟩
 have HO := aA.mk (Kd.rX ho HB.out.size)
 obtain ⟨A4, c4, e4⟩ := Kd.dQ ho
 subst e4
 have n0_ := aA.mk (aX HB.out hb)
 have bk := bD BKR.out hb
 have c0 := (aG bk 0).trans rfl
 have c1 := (aG bk 1).trans rfl
 have c2 := (aG bk 2).trans rfl
 have c3 := (aG bk 3).trans rfl
 have f0 := aC bk 0
 have f1 := aC bk 1
 have f2 := aC bk 2
 have f3 := aC bk 3
 have BK4 := aA.mk bk
 clear ho hb bk HB BKD BKR d0 d1 d2 d3 BKN dn
 go_wp2
 refine bodyPost_ret (fJ rfl _ _ gr 27 #[.slice A4 r1.length c4, .bool r2, .int .i64 r3, .int .i64 r4] (0, 0) _ rfl (uZ BK4.out _ _ _ _) Tryz.underlying27 rfl (by kernel_rfl)) rfl ?_
 exact ⟨_, rfl, R4 HO.out BK4.out (by decide) _ _ _ _, kH n0_.out GR.out _ _ _ _⟩
def vF.f (aW : List (S67)) (bV : Bool) (bW : Int) (bY : Int) (a1 : ByteArray) : Option ((List (S67)) × Bool × Int × Int × Int) := some (bU aW bV bW bY a1 false (fun _ b => if b = true then 0 else 7) (fun i => aW.set i.toNat ⟨(dX aW i).f0, (dX aW i).f1, ((dX aW i).f1.size : Int)⟩))
set_option maxHeartbeats 4000000 in
theorem vF.calls (dO : Option Addr) (dP : Nat) (aW : List (S67)) (bV : Bool) (bW : Int) (bY : Int) (a1 : ByteArray) (r1 : List (S67)) (r2 : Bool) (r3 : Int) (r4 : Int) (r5 : Int) (w : World) (jP : Kd.C k67 w dO aW.length aW) (lI : aW.length ≤ dP) (h : vF.f aW bV bW bY a1 = some (r1, r2, r3, r4, r5)) :
  Calls Tryz.prog 83 #[.agg #[.slice dO aW.length dP, .bool bV, .int .i64 bW, .int .i64 bY], .string a1] w fun e w' => ∃ v0_ : Value, e = .returned (.tuple #[.agg #[v0_, .bool r2, .int .i64 r3, .int .i64 r4], .int .i64 r5]) ∧ Kd.R k67 67 w' w.heap.size (fun _ => True) v0_ r1 ∧ Below w.heap.size w w' := by
 unfold vF.f at h
 have HE := aA.mk (Option.some.inj h)
 clear h
 have HR := aA.mk jP
 have HC := aA.mk lI
 clear jP lI
 have HB := aA.mk (Below.refl w.heap.size w)
 go_enter Tryz.func83, Tryz.ntmps83
 go_wp2_with (first
 |((with_reducible refine aP (N := 2) rfl ?_);
   refine dI ?hg (N := 2) ?hd (cs := #[.slice dO aW.length dP, .bool bV, .int .i64 bW, .int .i64 bY]) (t := 27) ?hr ?_;
   (case hd => rfl); (case hg => rfl); (case hr => first | (go_simp; done) | (go_simp; rfl));
   intro gd hg w1 hbox hb;
   have n0_ := aA.mk (aX HB.out hb);
   clear HB; have HB := n0_; have BKD := aA.mk hbox; clear n0_ hg hbox hb)
 |((with_reducible refine aP (N := 4) rfl ?_);
   refine dI ?hg (N := 4) ?hd (cs := #[.slice none 0 0, .bool false, .int .i64 0, .int .i64 0]) (t := 27) ?hr ?_;
   (case hd => rfl); (case hg => rfl); (case hr => first | (go_simp; done) | (go_simp; rfl));
   intro gr hg w3 hbox hb;
   have n0_ := aA.mk (aX HB.out hb); have n1_ := aA.mk (bD BKD.out hb);
   have GR := aA.mk (show w.heap.size ≤ gr by rw [hg]; exact HB.out.size);
   clear HB BKD; have HB := n0_; have BKD := n1_; have BKR := aA.mk hbox; clear n0_ n1_ hg hbox hb;
   have d0 : w3.cell? ⟨gd, 0, none⟩ = some (.slice dO aW.length dP) := (aG BKD.out 0).trans rfl;
   have d1 : w3.cell? ⟨gd, 1, none⟩ = some (.bool bV) := (aG BKD.out 1).trans rfl;
   have d2 : w3.cell? ⟨gd, 2, none⟩ = some (.int .i64 bW) := (aG BKD.out 2).trans rfl;
   have d3 : w3.cell? ⟨gd, 3, none⟩ = some (.int .i64 bY) := (aG BKD.out 3).trans rfl)
 |fail)
 refine ((qR 130 _ (fun args w => jS Tryz.func130 (by kernel_rfl) (by kernel_rfl) args w) dO dP aW bV bW bY a1 w3 (Kd.fC HR.out HB.out) HC.out false (fun _ b => if b = true then 0 else 7) (fun i => aW.set i.toNat ⟨(dX aW i).f0, (dX aW i).f1, ((dX aW i).f1.size : Int)⟩) ?hof).mono ?_)
 case hof => exact qcy w3 aW bV bW bY _ (fun i x hx => by simp only [Int.toNat_natCast]; rw [iC hx])
 rw [HE.out]
 rintro e w4 ⟨v, rfl, ho, hb⟩
 have HO := aA.mk (Kd.rX ho HB.out.size)
 obtain ⟨A4, c4, e4⟩ := Kd.dQ ho
 subst e4
 have n0_ := aA.mk (aX HB.out hb)
 have bk := bD BKR.out hb
 have c0 := (aG bk 0).trans rfl
 have c1 := (aG bk 1).trans rfl
 have c2 := (aG bk 2).trans rfl
 have c3 := (aG bk 3).trans rfl
 have f0 := aC bk 0
 have f1 := aC bk 1
 have f2 := aC bk 2
 have f3 := aC bk 3
 have BK4 := aA.mk bk
 clear ho hb bk HB BKD BKR d0 d1 d2 d3
 go_wp2
 refine bodyPost_ret (fJ rfl _ _ gr 27 #[.slice A4 r1.length c4, .bool r2, .int .i64 r3, .int .i64 r4] (0, 0) _ rfl (uZ BK4.out _ _ _ _) Tryz.underlying27 rfl (by kernel_rfl)) rfl ?_
 exact ⟨_, rfl, R4 HO.out BK4.out (by decide) _ _ _ _, kH n0_.out GR.out _ _ _ _⟩
def o9.f (aW : List (S67)) (bV : Bool) (bW : Int) (bY : Int) (a1 : ByteArray) : Option ((List (S67)) × Bool × Int × Int × Int) := some (bU aW bV bW bY a1 false (fun _ b => if b = true then 0 else 7) (fun i => aW.take i.toNat ++ aW.drop (i.toNat + 1)))
set_option maxHeartbeats 4000000 in
theorem o9.calls (dO : Option Addr) (dP : Nat) (aW : List (S67)) (bV : Bool) (bW : Int) (bY : Int) (a1 : ByteArray) (r1 : List (S67)) (r2 : Bool) (r3 : Int) (r4 : Int) (r5 : Int) (w : World) (jP : Kd.C k67 w dO aW.length aW) (lI : aW.length ≤ dP) (h : o9.f aW bV bW bY a1 = some (r1, r2, r3, r4, r5)) :
  Calls Tryz.prog 73 #[.agg #[.slice dO aW.length dP, .bool bV, .int .i64 bW, .int .i64 bY], .string a1] w fun e w' => ∃ v0_ : Value, e = .returned (.tuple #[.agg #[v0_, .bool r2, .int .i64 r3, .int .i64 r4], .int .i64 r5]) ∧ Kd.R k67 67 w' w.heap.size (fun _ => True) v0_ r1 ∧ Below w.heap.size w w' := by
 unfold o9.f at h
 have HE := aA.mk (Option.some.inj h)
 clear h
 have HR := aA.mk jP
 have HC := aA.mk lI
 clear jP lI
 have HB := aA.mk (Below.refl w.heap.size w)
 go_enter Tryz.func73, Tryz.ntmps73
 go_wp2_with (first
 |((with_reducible refine aP (N := 2) rfl ?_);
   refine dI ?hg (N := 2) ?hd (cs := #[.slice dO aW.length dP, .bool bV, .int .i64 bW, .int .i64 bY]) (t := 27) ?hr ?_;
   (case hd => rfl); (case hg => rfl); (case hr => first | (go_simp; done) | (go_simp; rfl));
   intro gd hg w1 hbox hb;
   have n0_ := aA.mk (aX HB.out hb);
   clear HB; have HB := n0_; have BKD := aA.mk hbox; clear n0_ hg hbox hb)
 |((with_reducible refine aP (N := 4) rfl ?_);
   refine dI ?hg (N := 4) ?hd (cs := #[.slice none 0 0, .bool false, .int .i64 0, .int .i64 0]) (t := 27) ?hr ?_;
   (case hd => rfl); (case hg => rfl); (case hr => first | (go_simp; done) | (go_simp; rfl));
   intro gr hg w3 hbox hb;
   have n0_ := aA.mk (aX HB.out hb); have n1_ := aA.mk (bD BKD.out hb);
   have GR := aA.mk (show w.heap.size ≤ gr by rw [hg]; exact HB.out.size);
   clear HB BKD; have HB := n0_; have BKD := n1_; have BKR := aA.mk hbox; clear n0_ n1_ hg hbox hb;
   have d0 : w3.cell? ⟨gd, 0, none⟩ = some (.slice dO aW.length dP) := (aG BKD.out 0).trans rfl;
   have d1 : w3.cell? ⟨gd, 1, none⟩ = some (.bool bV) := (aG BKD.out 1).trans rfl;
   have d2 : w3.cell? ⟨gd, 2, none⟩ = some (.int .i64 bW) := (aG BKD.out 2).trans rfl;
   have d3 : w3.cell? ⟨gd, 3, none⟩ = some (.int .i64 bY) := (aG BKD.out 3).trans rfl)
 |fail)
 refine ((qR 118 _ (fun args w => jS Tryz.func118 (by kernel_rfl) (by kernel_rfl) args w) dO dP aW bV bW bY a1 w3 (Kd.fC HR.out HB.out) HC.out false (fun _ b => if b = true then 0 else 7) (fun i => aW.take i.toNat ++ aW.drop (i.toNat + 1)) ?hof).mono ?_)
 case hof => exact ZX w3 aW bV bW bY _ (fun i hi => by simp)
 rw [HE.out]
 rintro e w4 ⟨v, rfl, ho, hb⟩
 have HO := aA.mk (Kd.rX ho HB.out.size)
 obtain ⟨A4, c4, e4⟩ := Kd.dQ ho
 subst e4
 have n0_ := aA.mk (aX HB.out hb)
 have bk := bD BKR.out hb
 have c0 := (aG bk 0).trans rfl
 have c1 := (aG bk 1).trans rfl
 have c2 := (aG bk 2).trans rfl
 have c3 := (aG bk 3).trans rfl
 have f0 := aC bk 0
 have f1 := aC bk 1
 have f2 := aC bk 2
 have f3 := aC bk 3
 have BK4 := aA.mk bk
 clear ho hb bk HB BKD BKR d0 d1 d2 d3
 go_wp2
 refine bodyPost_ret (fJ rfl _ _ gr 27 #[.slice A4 r1.length c4, .bool r2, .int .i64 r3, .int .i64 r4] (0, 0) _ rfl (uZ BK4.out _ _ _ _) Tryz.underlying27 rfl (by kernel_rfl)) rfl ?_
 exact ⟨_, rfl, R4 HO.out BK4.out (by decide) _ _ _ _, kH n0_.out GR.out _ _ _ _⟩
theorem qcz (k k' : IntKind) (x y : Int) : Builtin.max2 (.int k x) (.int k' y) = pure (.int k (mx x y)) := iE k k' x y
theorem qcA (k k' : IntKind) (x y : Int) : Builtin.min2 (.int k x) (.int k' y) = pure (.int k (mn x y)) := iF k k' x y
theorem qe5 {l : List Int} {k : Nat} (h : k < l.length) : l[k]? = some (rd l (k : Int)) := by
 simp [rd, List.getElem?_eq_getElem h]
attribute [local go_sem] qcz qcA jG jH
def lZ (x : S67) : Option Int → Int
 | none => x.f2
 | some v => x.f2 + mn (mx v 0) ((x.f1.size : Int) - x.f2)
def rO (x : S67) (k : Option Int) : S67 := ⟨x.f0, x.f1.extract 0 (lZ x k).toNat, lZ x k⟩
def dG (l : List S67) (ks : List Int) : List S67 := l.mapIdx fun i x => rO x ks[i]?
theorem iT (l : List S67) (ks : List Int) : (dG l ks).length = l.length := by simp [dG]
theorem AO {l : List S67} {ks : List Int} {i : Nat} {x : S67} (h : l[i]? = some x) : (dG l ks)[i]? = some (rO x ks[i]?) := by
 simp [dG, List.getElem?_mapIdx, h]
theorem wH {x : S67} (h0 : 0 ≤ x.f2) (h1 : x.f2 ≤ (x.f1.size : Int)) (k : Option Int) : x.f2 ≤ lZ x k ∧ lZ x k ≤ (x.f1.size : Int) := by
 cases k with
 | none => exact ⟨Int.le_refl _, h1⟩
 | some v =>
  simp only [lZ]
  unfold mn mx
  split <;> split <;> omega
def kJ (l : List S67) (ks : List Int) (k : Nat) : List S67 := (dG l ks).take k ++ l.drop k
theorem iU (l : List S67) (ks : List Int) (k : Nat) (h : k ≤ l.length) : (kJ l ks k).length = l.length := by
 simp [kJ, iT]; omega
theorem ZY {l : List S67} {ks : List Int} {k : Nat} {x : S67} (h : l[k]? = some x) : (kJ l ks k)[k]? = some x := by
 have hlt : k < l.length := (List.getElem?_eq_some_iff.1 h).1
 rw [kJ, List.getElem?_append_right (by simp [iT]; omega)]
 simp [iT]
 rw [show min k l.length = k by omega]
 simpa using h
theorem GL {l : List S67} {ks : List Int} {k : Nat} {x : S67} (h : l[k]? = some x) : (kJ l ks k).set k (rO x ks[k]?) = kJ l ks (k + 1) := by
 have hlt : k < l.length := (List.getElem?_eq_some_iff.1 h).1
 have hlen : ((dG l ks).take k).length = k := by simp [iT]; omega
 rw [kJ, kJ, List.set_append_right _ _ (by omega), hlen, Nat.sub_self]
 rw [List.drop_eq_getElem_cons hlt, zZ, List.take_succ_eq_append_getElem (by rw [iT]; exact hlt)]
 have h2 := AO (ks := ks) h
 rw [List.getElem?_eq_getElem (by rw [iT]; exact hlt)] at h2
 rw [Option.some.inj h2]
 simp
def oW.f (aW : List (S67)) (bV : Bool) (bW : Int) (bY : Int) (l1 : List Int) : Option ((List (S67)) × Bool × Int × Int × Int) := some (if bF aW = true then (dG aW l1, false, -1, -1, 0) else ([], false, 0, 0, 6))
set_option maxHeartbeats 8000000 in
theorem oW.calls (dO : Option Addr) (dP : Nat) (aW : List (S67)) (bV : Bool) (bW : Int) (bY : Int) (A1 : Option Addr) (c1 : Nat) (l1 : List Int) (r1 : List (S67)) (r2 : Bool) (r3 : Int) (r4 : Int) (r5 : Int) (w : World) (jP : Kd.C k67 w dO aW.length aW) (lI : aW.length ≤ dP) (hr1 : Kd.C (Kd.int .i64) w A1 l1.length l1) (hc1 : l1.length ≤ c1) (h : oW.f aW bV bW bY l1 = some (r1, r2, r3, r4, r5)) :
  Calls Tryz.prog 23 #[.agg #[.slice dO aW.length dP, .bool bV, .int .i64 bW, .int .i64 bY], .slice A1 l1.length c1] w fun e w' => ∃ v0_ : Value, e = .returned (.tuple #[.agg #[v0_, .bool r2, .int .i64 r3, .int .i64 r4], .int .i64 r5]) ∧ Kd.R k67 67 w' w.heap.size (fun _ => True) v0_ r1 ∧ Below w.heap.size w w' := by
 unfold oW.f at h
 have HE := aA.mk (Option.some.inj h)
 clear h
 have HR := aA.mk jP
 have HC := aA.mk lI
 have HK1 := aA.mk hr1
 have hl1 : l1.length ≤ 9223372036854775807 := hr1.2.1
 clear jP lI hr1 hc1
 have HB := aA.mk (Below.refl w.heap.size w)
 go_enter Tryz.func23, Tryz.ntmps23
 go_wp2_with (first
 |((with_reducible refine aP (N := 2) rfl ?_);
   refine dI ?hg (N := 2) ?hd (cs := #[.slice dO aW.length dP, .bool bV, .int .i64 bW, .int .i64 bY]) (t := 27) ?hr ?_;
   (case hd => rfl); (case hg => rfl); (case hr => first | (go_simp; done) | (go_simp; rfl));
   intro gd hg w1 hbox hb;
   have n0_ := aA.mk (aX HB.out hb);
   clear HB; have HB := n0_; have BKD := aA.mk hbox; clear n0_ hg hbox hb)
 |((with_reducible refine aP (N := 4) rfl ?_);
   refine dI ?hg (N := 4) ?hd (cs := #[.slice none 0 0, .bool false, .int .i64 0, .int .i64 0]) (t := 27) ?hr ?_;
   (case hd => rfl); (case hg => rfl); (case hr => first | (go_simp; done) | (go_simp; rfl));
   intro gr hg w3 hbox hb;
   have n0_ := aA.mk (aX HB.out hb); have n1_ := aA.mk (bD BKD.out hb);
   have GR := aA.mk (show w.heap.size ≤ gr by rw [hg]; exact HB.out.size);
   clear HB BKD; have HB := n0_; have BKD := n1_; have BKR := aA.mk hbox; clear n0_ n1_ hg hbox hb;
   have d0 : w3.cell? ⟨gd, 0, none⟩ = some (.slice dO aW.length dP) := (aG BKD.out 0).trans rfl;
   have d1 : w3.cell? ⟨gd, 1, none⟩ = some (.bool bV) := (aG BKD.out 1).trans rfl;
   have d2 : w3.cell? ⟨gd, 2, none⟩ = some (.int .i64 bW) := (aG BKD.out 2).trans rfl;
   have d3 : w3.cell? ⟨gd, 3, none⟩ = some (.int .i64 bY) := (aG BKD.out 3).trans rfl)
 |fail)
 by_cases hok : bF aW = true
 ·have HE2 : aA ((dG aW l1, false, (-1 : Int), (-1 : Int), (0 : Int)) = (r1, r2, r3, r4, r5)) := ⟨by have := HE.out; rwa [if_pos hok] at this⟩
  have hle : aW.length ≤ 64 := by
   simp only [bF, Bool.and_eq_true, decide_eq_true_eq] at hok
   exact hok.2
  have HOK := aA.mk hok
  refine ((dK.calls dO dP aW bV bW bY 0 w3 (Kd.fC HR.out HB.out) HC.out (by rw [dK.f, if_pos hok])).mono ?_)
  clear hok HE
  rintro e w4 ⟨rfl, hb⟩
  have n0_ := aA.mk (aX HB.out hb); have n1_ := aA.mk (bD BKD.out hb); have n2_ := aA.mk (bD BKR.out hb)
  clear HB BKD BKR d0 d1 d2 d3 hb; have HB := n0_; have BKD := n1_; have BKR := n2_; clear n0_ n1_ n2_
  have d0 : w4.cell? ⟨gd, 0, none⟩ = some (.slice dO aW.length dP) := (aG BKD.out 0).trans rfl
  go_wp2_with fail
  refine ((pV.calls dO dP aW aW w4 (Kd.fC HR.out HB.out) HC.out (by rw [pV.f, if_pos (by omega)])).mono ?_)
  rintro e w5 ⟨v, rfl, ho, hb⟩
  have n0_ := aA.mk (aX HB.out hb); have n2_ := aA.mk (bD BKR.out hb); have HO := aA.mk (Kd.rX ho HB.out.size)
  obtain ⟨A, c, e⟩ := Kd.dQ ho
  subst e
  clear HB BKD BKR d0 hb ho; have HB := n0_; have BKR := n2_; clear n0_ n2_
  go_wp2_with (first
 |((with_reducible refine aP (N := 7) rfl ?_);
   refine dI ?hg (N := 7) ?hd (cs := #[.slice none 0 0, .bool false, .int .i64 0, .int .i64 0]) (t := 27) ?hr ?_;
   (case hd => rfl); (case hg => rfl); (case hr => first | (go_simp; done) | (go_simp; rfl));
   intro go hg w6 hbox hb;
   have n0_ := aA.mk (aX HB.out hb); have n1_ := aA.mk (bD BKR.out hb); have n2_ := aA.mk (Kd.pO HO.out hb);
   have GO := aA.mk (show w.heap.size ≤ go by rw [hg]; exact HB.out.size); have NRO := aA.mk (show gr ≠ go by rw [hg]; exact Nat.ne_of_lt (gG BKR.out));
   clear HB BKR HO; have HB := n0_; have BKR := n1_; have HO := n2_; have BKO := aA.mk hbox; clear n0_ n1_ n2_ hg hbox hb;
   have o0 : w6.cell? ⟨go, 0, none⟩ = some (.slice none 0 0) := (aG BKO.out 0).trans rfl;
   have o1 : w6.cell? ⟨go, 1, none⟩ = some (.bool false) := (aG BKO.out 1).trans rfl;
   have o2 : w6.cell? ⟨go, 2, none⟩ = some (.int .i64 0) := (aG BKO.out 2).trans rfl;
   have o3 : w6.cell? ⟨go, 3, none⟩ = some (.int .i64 0) := (aG BKO.out 3).trans rfl;
   have of0 := aC BKO.out 0; have of1 := aC BKO.out 1; have of2 := aC BKO.out 2; have of3 := aC BKO.out 3)
 |fail)
  go_loopw [23] (fun v23 wr => ∃ k : Nat, v23 = .int .i64 (k : Int) ∧ k ≤ aW.length ∧ aA (Below w.heap.size w wr) ∧ aA (wr.heap[gr]? = some (.cells #[.slice none 0 0, .bool false, .int .i64 0, .int .i64 0] 27 (0, 0)))
    ∧ aA (wr.heap[go]? = some (.cells #[.slice A aW.length c, .bool false, .int .i64 (-1), .int .i64 (-1)] 27 (0, 0))) ∧ aA (Kd.R k67 67 wr w.heap.size (fun _ => True) (.slice A aW.length c) (kJ aW l1 k)))
   (fun v23 _ => aW.length - (intOf v23).toNat)
  case atStart =>
   refine ⟨0, rfl, by omega, ⟨kH HB.out GO.out _ _ _ _⟩, ⟨qhL BKR.out NRO.out _ _ _ _⟩, ⟨uZ BKO.out _ _ _ _⟩, ⟨?_⟩⟩
   have e : kJ aW l1 0 = aW := by simp [kJ]
   rw [e]
   exact R4 HO.out BKO.out (by decide) _ _ _ _
  case round =>
   clear HB BKR BKO HO o0 o1 o2 o3 of0 of1 of2 of3
   obtain ⟨k, rfl, hkn, HB, BKR, BKO, HO⟩ := hrel
   by_cases hlt : k < aW.length
   ·obtain ⟨x, hx⟩ : ∃ x, aW[k]? = some x := ⟨_, List.getElem?_eq_getElem hlt⟩
    have hck := iU aW l1 k hkn
    have hxk := ZY (ks := l1) hx
    have ⟨e0, e1, e2⟩ := iZ _ k x hxk
    rw [← hck] at HO
    obtain ⟨g, cur, hA, _, hg, hh, h3, h4, h5, h6⟩ := lW HO.out (by omega)
    subst hA
    rw [hck] at HO h3
    have s1 : wr.cell? ⟨go, 0, none⟩ = some (.slice (some ⟨g, 0, none⟩) aW.length c) := (aG BKO.out 0).trans rfl
    have s3 : wr.cell? ⟨g, k * 3 + 1, none⟩ = some (.string x.f1) := kC hh h6 e1
    have s4 : wr.cell? ⟨g, k * 3 + 2, none⟩ = some (.int .i64 x.f2) := kC hh h6 e2
    have s5 := aC hh (k * 3 + 2)
    have s6 := aC hh (k * 3 + 1)
    have NGO := aA.mk (show g ≠ go from gB hh BKO.out (by decide))
    have NGR := aA.mk (show g ≠ gr from gB hh BKR.out (by decide))
    have HG := aA.mk hg
    have HH := aA.mk hh
    have HX := aA.mk hx
    have HXK := aA.mk hxk
    have hr2 := o8 HOK.out hx
    have hi0 : (0 : Int) ≤ (k : Int) := by omega
    have hi1 : (k : Int) < (aW.length : Int) := by omega
    clear hh hg h4 h5 h6 e0 e1 e2 hx hxk hck
    by_cases hk2 : k < l1.length
    ·obtain ⟨ad, e, hkc⟩ := Kd.qdV HK1.out (k : Int) (by omega) (by omega)
     subst e
     have hkb := World.block_lt_of_cell? w _ hkc
     have hne : ad.block ≠ g := fun e => by rw [add_block] at hkb; have := HG.out; omega
     have qhW := (HB.out.cell hkb).trans hkc
     clear hkc hkb
     have hi2 : (k : Int) < (l1.length : Int) := by omega
     simp only [Int.toNat_natCast] at qhW
     have hS := wH hr2.2.2.1 hr2.2.2.2 (some (rd l1 (k : Int)))
     simp only [lZ] at hS
     have hm1 : 0 ≤ mn (mx (rd l1 (k : Int)) 0) ((x.f1.size : Int) - x.f2) := by omega
     have hm2 : mn (mx (rd l1 (k : Int)) 0) ((x.f1.size : Int) - x.f2) ≤ (x.f1.size : Int) - x.f2 := by omega
     go_wp2
     go_region
     go_wp2
     go_region
     go_wp2
     have el : l1[k]? = some (rd l1 (k : Int)) := qe5 hk2
     obtain ⟨q, hq⟩ : ∃ q, q = lZ x (some (rd l1 (k : Int))) := ⟨_, rfl⟩
     have e : kJ aW l1 (k + 1) = (((kJ aW l1 k).set k ⟨x.f0, x.f1, q⟩).set k ⟨x.f0, x.f1.extract 0 q.toNat, q⟩) := by
      rw [← GL (ks := l1) HX.out, el, List.set_set, rO, ← hq]
     rw [show x.f2 + mn (mx (rd l1 (k : Int)) 0) ((x.f1.size : Int) - x.f2) = q from hq.symm]
     refine ⟨⟨k + 1, by congr 1, by omega, ⟨fH (bH (fH (bH HB.out HG.out)) HG.out)⟩,
      ⟨bI (dF (p := ⟨g, k * 3 + 1, none⟩) (bI (dF (p := ⟨g, k * 3 + 2, none⟩) BKR.out (fun e => NGR.out e.symm) _)) (fun e => NGR.out e.symm) _)⟩,
      ⟨bI (dF (p := ⟨g, k * 3 + 1, none⟩) (bI (dF (p := ⟨g, k * 3 + 2, none⟩) BKO.out (fun e => NGO.out e.symm) _)) (fun e => NGO.out e.symm) _)⟩, ⟨?_⟩⟩, by simp [intOf]; omega⟩
     have ho := HO.out
     rw [← iU aW l1 k hkn] at ho
     have h := zG (u := .int .i64 q) ho (l' := (kJ aW l1 k).set k ⟨x.f0, x.f1, q⟩) (by rw [List.length_set]) (jI _ k x _ HXK.out) (j := k * 3 + 2) (by rw [iU aW l1 k hkn]; omega)
     have h := zG (u := .string (x.f1.extract 0 q.toNat)) h (l' := ((kJ aW l1 k).set k ⟨x.f0, x.f1, q⟩).set k ⟨x.f0, x.f1.extract 0 q.toNat, q⟩) (by rw [List.length_set]) (jV _ k ⟨x.f0, x.f1, q⟩ _ (by rw [List.getElem?_set_self (by rw [iU aW l1 k hkn]; omega)])) (j := k * 3 + 1) (by rw [List.length_set, iU aW l1 k hkn]; omega)
     rw [List.length_set, List.length_set, iU aW l1 k hkn, ← e] at h
     exact h
    ·go_wp2
     go_region
     go_wp2
     have e : kJ aW l1 (k + 1) = ((kJ aW l1 k).set k ⟨x.f0, x.f1.extract 0 x.f2.toNat, x.f2⟩) := by
      rw [← GL (ks := l1) HX.out, List.getElem?_eq_none (by omega)]
      rfl
     refine ⟨⟨k + 1, by congr 1, by omega, ⟨fH (bH HB.out HG.out)⟩, ⟨bI (dF (p := ⟨g, k * 3 + 1, none⟩) BKR.out (fun e => NGR.out e.symm) _)⟩, ⟨bI (dF (p := ⟨g, k * 3 + 1, none⟩) BKO.out (fun e => NGO.out e.symm) _)⟩, ⟨?_⟩⟩, by simp [intOf]; omega⟩
     have ho := HO.out
     rw [← iU aW l1 k hkn] at ho
     have h := zG (u := .string (x.f1.extract 0 x.f2.toNat)) ho (l' := (kJ aW l1 k).set k ⟨x.f0, x.f1.extract 0 x.f2.toNat, x.f2⟩) (by rw [List.length_set]) (jV _ k x _ HXK.out) (j := k * 3 + 1) (by rw [iU aW l1 k hkn]; omega)
     rw [List.length_set, iU aW l1 k hkn, ← e] at h
     exact h
   ·obtain rfl : k = aW.length := by omega
    have o0 : wr.cell? ⟨go, 0, none⟩ = some (.slice A aW.length c) := (aG BKO.out 0).trans rfl
    have o1 : wr.cell? ⟨go, 1, none⟩ = some (.bool false) := (aG BKO.out 1).trans rfl
    have o2 : wr.cell? ⟨go, 2, none⟩ = some (.int .i64 (-1)) := (aG BKO.out 2).trans rfl
    have o3 : wr.cell? ⟨go, 3, none⟩ = some (.int .i64 (-1)) := (aG BKO.out 3).trans rfl
    have b0 : wr.cell? ⟨gr, 0, none⟩ = some (.slice none 0 0) := (aG BKR.out 0).trans rfl
    have b1 : wr.cell? ⟨gr, 1, none⟩ = some (.bool false) := (aG BKR.out 1).trans rfl
    have b2 : wr.cell? ⟨gr, 2, none⟩ = some (.int .i64 0) := (aG BKR.out 2).trans rfl
    have b3 : wr.cell? ⟨gr, 3, none⟩ = some (.int .i64 0) := (aG BKR.out 3).trans rfl
    have bf0 := aC BKR.out 0
    have bf1 := aC BKR.out 1
    have bf2 := aC BKR.out 2
    have bf3 := aC BKR.out 3
    go_wp2_with fail
    refine bodyPost_ret (fJ rfl _ _ gr 27 #[.slice A aW.length c, .bool false, .int .i64 (-1), .int .i64 (-1)] (0, 0) _ rfl (uZ BKR.out _ _ _ _) Tryz.underlying27 rfl (by kernel_rfl)) rfl ?_
    have e := HE2.out
    simp only [Prod.mk.injEq] at e
    obtain ⟨rfl, rfl, rfl, rfl, rfl⟩ := e
    have e : kJ aW l1 aW.length = dG aW l1 := by
     rw [kJ, List.take_of_length_le (by rw [iT]; omega), List.drop_length, List.append_nil]
    rw [← e]
    exact ⟨_, rfl, R4 HO.out BKR.out (by decide) _ _ _ _, kH HB.out GR.out _ _ _ _⟩
 ·refine ((dK.calls dO dP aW bV bW bY 6 w3 (Kd.fC HR.out HB.out) HC.out (by rw [dK.f, if_neg hok])).mono ?_)
  have HE2 : aA ((([] : List S67), false, (0 : Int), (0 : Int), (6 : Int)) = (r1, r2, r3, r4, r5)) := ⟨by have := HE.out; rwa [if_neg hok] at this⟩
  clear hok HE
  rintro e w4 ⟨rfl, hb⟩
  have n0_ := aA.mk (aX HB.out hb); have n2_ := aA.mk (bD BKR.out hb)
  clear HB BKD BKR d0 d1 d2 d3 hb; have HB := n0_; have BKR := n2_; clear n0_ n2_
  have b0 : w4.cell? ⟨gr, 0, none⟩ = some (.slice none 0 0) := (aG BKR.out 0).trans rfl
  have b1 : w4.cell? ⟨gr, 1, none⟩ = some (.bool false) := (aG BKR.out 1).trans rfl
  have b2 : w4.cell? ⟨gr, 2, none⟩ = some (.int .i64 0) := (aG BKR.out 2).trans rfl
  have b3 : w4.cell? ⟨gr, 3, none⟩ = some (.int .i64 0) := (aG BKR.out 3).trans rfl
  have bf0 := aC BKR.out 0
  have bf1 := aC BKR.out 1
  have bf2 := aC BKR.out 2
  have bf3 := aC BKR.out 3
  go_wp2_with fail
  refine bodyPost_ret (fJ rfl _ _ gr 27 #[.slice none 0 0, .bool false, .int .i64 0, .int .i64 0] (0, 0) _ rfl (uZ BKR.out _ _ _ _) Tryz.underlying27 rfl (by kernel_rfl)) rfl ?_
  have e := HE2.out
  simp only [Prod.mk.injEq] at e
  obtain ⟨rfl, rfl, rfl, rfl, rfl⟩ := e
  exact ⟨_, rfl, Kd.zF _ _ _ _ _, kH HB.out GR.out _ _ _ _⟩
end Go.Proofs.U
