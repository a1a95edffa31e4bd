import Derived.Test.YtanonhipicoigaaGreatDoorZQak
import Derived.RegionTactic
import Derived.BigRegion
import Derived.Deep.RegionLaw
import Derived.Lib.SliceRun
import Derived.Test.YtanonhipicoigaaGreatDoorZQai
import Derived.Test.YtanonhipicoigaaGreatDoorZQag
set_option linter.unusedVariables false
set_option linter.unusedSimpArgs false
namespace Go.Proofs.YtanonhipicoigaaGreatDoor.U
open Go.RowKit Go.Proofs.YW.PrintWords Go.Proofs.YW.PrintLast Go.Proofs.YW.PrintMore
def rfT (size : Int) (l : List S67) (i : Int) (b : Bool) : Int := if b = true then (if size < 0 ∨ ((dY l i).f1.size : Int) < size then 2 else 0) else 7
theorem qdo : Enters 163 := fun args w => jW Tryz.func163 (by kernel_rfl) (by kernel_rfl) args w
theorem qdp : Enters 164 := fun args w => jW Tryz.func164 (by kernel_rfl) (by kernel_rfl) args w
theorem WC (w : World) (v2 v1 : Value) (size : Int) (l : List S67) (i : Int) :
  Calls Tryz.prog 163 #[.int .i64 i, .bool false, v2, v1] w fun e w' => e = .returned (.int .i64 (rfT size l i false)) ∧ w = w' := by
 go_enter Tryz.func163, Tryz.ntmps163
 go_wp2_with (go_at_call 160; refine (o8 _ _ _).mono ?_; rintro e w' ⟨rfl, rfl⟩)
 go_ret
 exact ⟨rfl, rfl⟩
set_option maxHeartbeats 4000000 in
set_option maxRecDepth 100000 in
theorem YK (w : World) (gp b1 b2 g : Nat) (cur : Array Value) (size : Int) (l : List S67) (c : Nat) (i : Nat) (x : S67) (hx : l[i]? = some x) (hn : l.length ≤ 64) (s3 : w.cell? ⟨b2, 0, none⟩ = some (.int .i64 size)) (s1 : w.cell? ⟨b1, 0, none⟩ = some (.pointer (some ⟨gp, 0, none⟩)))
  (s2 : w.cell? ⟨gp, 0, none⟩ = some (.slice (some ⟨g, 0, none⟩) l.length c)) (hh : w.heap[g]? = some (.cells cur 67 (0, 0))) (h6 : cur.toList.take (l.length * 3) = cellsOf l) :
  Calls Tryz.prog 163 #[.int .i64 (i : Int), .bool true, .pointer (some ⟨b2, 0, none⟩), .pointer (some ⟨b1, 0, none⟩)] w fun e w' => e = .returned (.int .i64 (rfT size l i true)) ∧ Below w.heap.size w w' := by
 have hlt : i < l.length := (List.getElem?_eq_some_iff.1 hx).1
 obtain ⟨e0, e1, e2⟩ := jB l i x hx
 have s4 : w.cell? ⟨g, i * 3 + 1, none⟩ = some (.string x.f1) := kE hh h6 e1
 have hi0 : (0 : Int) ≤ (i : Int) := by omega
 have hi1 : (i : Int) < (l.length : Int) := by omega
 obtain ⟨R, hR⟩ : ∃ R, R = rfT size l i true := ⟨_, rfl⟩
 rw [← hR]
 have HR : aA (R = if size < 0 ∨ (x.f1.size : Int) < size then 2 else 0) := ⟨by rw [hR, rfT, if_pos rfl, iC hx]⟩
 clear hR hx hh h6 e0 e1 e2
 by_cases hs : size < 0
 ·have HE : aA (R = 2) := ⟨by rw [HR.out, if_pos (.inl hs)]⟩
  have hd : decide (size < 0) = true := by simpa using hs
  clear hs
  go_enter Tryz.func163, Tryz.ntmps163
  go_wp2_with (go_at_call 160; refine (o8 _ _ _).mono ?_; rintro e w' ⟨rfl, rfl⟩)
  refine gK (n := 16) (S := fun w' => w'.cell? ⟨b2, 0, none⟩ = some (.int .i64 size) ∧ w'.cell? ⟨b1, 0, none⟩ = some (.pointer (some ⟨gp, 0, none⟩)) ∧ w'.cell? ⟨gp, 0, none⟩ = some (.slice (some ⟨g, 0, none⟩) l.length c) ∧ w'.cell? ⟨g, i * 3 + 1, none⟩ = some (.string x.f1)) (ds := []) #[false, false, false, false, false, false, false, false, false, false, false, false, false, false, false, false] (by kernel_rfl) rfl rfl ⟨s3, s1, s2, s4⟩ (fun hHeld => ?_)
  refine dD (i := 0) (N := some 14) (v := ?_) (a' := ?_) #[true, false, false, false, false, false, false, false, false, false, false, false, false, false, false, false] rfl rfl (by kernel_rfl) (fun _ _ _ h => h) (Or.inl ⟨by rfl, ?_⟩) hHeld ?_ ?_
  rotate_left
  ·rintro w' ⟨s0, s1, s2, s3⟩
   go_simp
   with_reducible rfl
  rotate_left
  ·simp only [Act.put, zA, zZ, zS, aI, aJ]
   rfl
  refine aQ (i := 1) (N := some 15) (v := ?_) (a' := ?_) #[true, true, false, false, false, false, false, false, false, false, false, false, false, false, false, false] rfl rfl (by kernel_rfl) (fun _ _ _ h => h) (Or.inl ⟨by rfl, ?_⟩) ?_ ?_
  rotate_left
  ·intro w'
   go_simp
   with_reducible rfl
  rotate_left
  ·simp only [Act.put, zA, zZ, zS, aI, aJ]
   rfl
  refine aQ (i := 2) (N := some 16) (v := ?_) (a' := ?_) #[true, true, true, false, false, false, false, false, false, false, false, false, false, false, false, false] rfl rfl (by kernel_rfl) (fun _ _ _ h => h) (Or.inl ⟨by rfl, ?_⟩) ?_ ?_
  rotate_left
  ·intro w'
   go_simp
   with_reducible rfl
  rotate_left
  ·simp only [Act.put, zA, zZ, zS, aI, aJ]
   rfl
  refine aQ (i := 3) (N := some 17) (v := undef) (a' := ?_) #[true, true, true, true, false, false, false, false, false, false, false, false, false, false, false, false] rfl rfl (by kernel_rfl) (fun _ _ _ h => h) (Or.inr ⟨by rfl, rfl⟩) ?_ ?_
  rotate_left
  ·simp only [Act.put, zA, zZ, zS, aI, aJ]
   rfl
  refine aQ (i := 4) (N := some 18) (v := undef) (a' := ?_) #[true, true, true, true, true, false, false, false, false, false, false, false, false, false, false, false] rfl rfl (by kernel_rfl) (fun _ _ _ h => h) (Or.inr ⟨by rfl, rfl⟩) ?_ ?_
  rotate_left
  ·simp only [Act.put, zA, zZ, zS, aI, aJ]
   rfl
  refine aQ (i := 5) (N := some 19) (v := undef) (a' := ?_) #[true, true, true, true, true, true, false, false, false, false, false, false, false, false, false, false] rfl rfl (by kernel_rfl) (fun _ _ _ h => h) (Or.inr ⟨by rfl, rfl⟩) ?_ ?_
  rotate_left
  ·simp only [Act.put, zA, zZ, zS, aI, aJ]
   rfl
  refine aQ (i := 6) (N := some 20) (v := undef) (a' := ?_) #[true, true, true, true, true, true, true, false, false, false, false, false, false, false, false, false] rfl rfl (by kernel_rfl) (fun _ _ _ h => h) (Or.inr ⟨by rfl, rfl⟩) ?_ ?_
  rotate_left
  ·simp only [Act.put, zA, zZ, zS, aI, aJ]
   rfl
  refine aQ (i := 7) (N := some 21) (v := undef) (a' := ?_) #[true, true, true, true, true, true, true, true, false, false, false, false, false, false, false, false] rfl rfl (by kernel_rfl) (fun _ _ _ h => h) (Or.inr ⟨by rfl, rfl⟩) ?_ ?_
  rotate_left
  ·simp only [Act.put, zA, zZ, zS, aI, aJ]
   rfl
  refine aQ (i := 8) (N := some 22) (v := undef) (a' := ?_) #[true, true, true, true, true, true, true, true, true, false, false, false, false, false, false, false] rfl rfl (by kernel_rfl) (fun _ _ _ h => h) (Or.inr ⟨by rfl, rfl⟩) ?_ ?_
  rotate_left
  ·simp only [Act.put, zA, zZ, zS, aI, aJ]
   rfl
  refine aQ (i := 9) (N := some 23) (v := undef) (a' := ?_) #[true, true, true, true, true, true, true, true, true, true, false, false, false, false, false, false] rfl rfl (by kernel_rfl) (fun _ _ _ h => h) (Or.inr ⟨by rfl, rfl⟩) ?_ ?_
  rotate_left
  ·simp only [Act.put, zA, zZ, zS, aI, aJ]
   rfl
  refine aQ (i := 10) (N := some 24) (v := undef) (a' := ?_) #[true, true, true, true, true, true, true, true, true, true, true, false, false, false, false, false] rfl rfl (by kernel_rfl) (fun _ _ _ h => h) (Or.inr ⟨by rfl, rfl⟩) ?_ ?_
  rotate_left
  ·simp only [Act.put, zA, zZ, zS, aI, aJ]
   rfl
  refine aQ (i := 11) (N := some 25) (v := undef) (a' := ?_) #[true, true, true, true, true, true, true, true, true, true, true, true, false, false, false, false] rfl rfl (by kernel_rfl) (fun _ _ _ h => h) (Or.inr ⟨by rfl, rfl⟩) ?_ ?_
  rotate_left
  ·simp only [Act.put, zA, zZ, zS, aI, aJ]
   rfl
  refine aQ (i := 12) (N := some 26) (v := undef) (a' := ?_) #[true, true, true, true, true, true, true, true, true, true, true, true, true, false, false, false] rfl rfl (by kernel_rfl) (fun _ _ _ h => h) (Or.inr ⟨by rfl, rfl⟩) ?_ ?_
  rotate_left
  ·simp only [Act.put, zA, zZ, zS, aI, aJ]
   rfl
  refine aQ (i := 13) (N := some 27) (v := undef) (a' := ?_) #[true, true, true, true, true, true, true, true, true, true, true, true, true, true, false, false] rfl rfl (by kernel_rfl) (fun _ _ _ h => h) (Or.inr ⟨by rfl, rfl⟩) ?_ ?_
  rotate_left
  ·simp only [Act.put, zA, zZ, zS, aI, aJ]
   rfl
  refine aQ (i := 14) (N := some 28) (v := undef) (a' := ?_) #[true, true, true, true, true, true, true, true, true, true, true, true, true, true, true, false] rfl rfl (by kernel_rfl) (fun _ _ _ h => h) (Or.inr ⟨by rfl, rfl⟩) ?_ ?_
  rotate_left
  ·simp only [Act.put, zA, zZ, zS, aI, aJ]
   rfl
  refine aQ (i := 15) (N := some 29) (v := ?_) (a' := ?_) #[true, true, true, true, true, true, true, true, true, true, true, true, true, true, true, true] rfl rfl (by kernel_rfl) (fun _ _ _ h => h) (Or.inl ⟨by rfl, ?_⟩) ?_ ?_
  rotate_left
  ·intro w'
   go_simp
   with_reducible rfl
  rotate_left
  ·simp only [Act.put, zA, zZ, zS, aI, aJ]
   rfl
  refine jR (by kernel_rfl) ?_
  go_wp2
  go_ret
  exact ⟨by rw [HE.out]; rfl, fE (Below.refl _ _)⟩
 ·have hd : decide (size < 0) = false := by simpa using hs
  by_cases hb : (x.f1.size : Int) < size
  ·have HE : aA (R = 2) := ⟨by rw [HR.out, if_pos (.inr hb)]⟩
   have hd2 : decide ((x.f1.size : Int) < size) = true := by simpa using hb
   clear hs hb
   go_enter Tryz.func163, Tryz.ntmps163
   go_wp2_with (go_at_call 160; refine (o8 _ _ _).mono ?_; rintro e w' ⟨rfl, rfl⟩)
   refine gK (n := 16) (S := fun w' => w'.cell? ⟨b2, 0, none⟩ = some (.int .i64 size) ∧ w'.cell? ⟨b1, 0, none⟩ = some (.pointer (some ⟨gp, 0, none⟩)) ∧ w'.cell? ⟨gp, 0, none⟩ = some (.slice (some ⟨g, 0, none⟩) l.length c) ∧ w'.cell? ⟨g, i * 3 + 1, none⟩ = some (.string x.f1)) (ds := []) #[false, false, false, false, false, false, false, false, false, false, false, false, false, false, false, false] (by kernel_rfl) rfl rfl ⟨s3, s1, s2, s4⟩ (fun hHeld => ?_)
   refine dD (i := 0) (N := some 14) (v := ?_) (a' := ?_) #[true, false, false, false, false, false, false, false, false, false, false, false, false, false, false, false] rfl rfl (by kernel_rfl) (fun _ _ _ h => h) (Or.inl ⟨by rfl, ?_⟩) hHeld ?_ ?_
   rotate_left
   ·rintro w' ⟨s0, s1, s2, s3⟩
    go_simp
    with_reducible rfl
   rotate_left
   ·simp only [Act.put, zA, zZ, zS, aI, aJ]
    rfl
   refine aQ (i := 1) (N := some 15) (v := ?_) (a' := ?_) #[true, true, false, false, false, false, false, false, false, false, false, false, false, false, false, false] rfl rfl (by kernel_rfl) (fun _ _ _ h => h) (Or.inl ⟨by rfl, ?_⟩) ?_ ?_
   rotate_left
   ·intro w'
    go_simp
    with_reducible rfl
   rotate_left
   ·simp only [Act.put, zA, zZ, zS, aI, aJ]
    rfl
   refine aQ (i := 2) (N := some 16) (v := ?_) (a' := ?_) #[true, true, true, false, false, false, false, false, false, false, false, false, false, false, false, false] rfl rfl (by kernel_rfl) (fun _ _ _ h => h) (Or.inl ⟨by rfl, ?_⟩) ?_ ?_
   rotate_left
   ·intro w'
    go_simp
    with_reducible rfl
   rotate_left
   ·simp only [Act.put, zA, zZ, zS, aI, aJ]
    rfl
   refine aQ (i := 9) (N := some 23) (v := ?_) (a' := ?_) #[true, true, true, false, false, false, false, false, false, true, false, false, false, false, false, false] rfl rfl (by kernel_rfl) (fun _ _ _ h => h) (Or.inl ⟨by rfl, ?_⟩) ?_ ?_
   rotate_left
   ·intro w'
    go_simp
    with_reducible rfl
   rotate_left
   ·simp only [Act.put, zA, zZ, zS, aI, aJ]
    rfl
   refine dD (i := 3) (N := some 17) (v := ?_) (a' := ?_) #[true, true, true, true, false, false, false, false, false, true, false, false, false, false, false, false] rfl rfl (by kernel_rfl) (fun _ _ _ h => h) (Or.inl ⟨by rfl, ?_⟩) hHeld ?_ ?_
   rotate_left
   ·rintro w' ⟨s0, s1, s2, s3⟩
    go_simp
    with_reducible rfl
   rotate_left
   ·simp only [Act.put, zA, zZ, zS, aI, aJ]
    rfl
   refine dD (i := 4) (N := some 18) (v := ?_) (a' := ?_) #[true, true, true, true, true, false, false, false, false, true, false, false, false, false, false, false] rfl rfl (by kernel_rfl) (fun _ _ _ h => h) (Or.inl ⟨by rfl, ?_⟩) hHeld ?_ ?_
   rotate_left
   ·rintro w' ⟨s0, s1, s2, s3⟩
    go_simp
    with_reducible rfl
   rotate_left
   ·simp only [Act.put, zA, zZ, zS, aI, aJ]
    rfl
   refine aQ (i := 5) (N := some 19) (v := ?_) (a' := ?_) #[true, true, true, true, true, true, false, false, false, true, false, false, false, false, false, false] rfl rfl (by kernel_rfl) (fun _ _ _ h => h) (Or.inl ⟨by rfl, ?_⟩) ?_ ?_
   rotate_left
   ·intro w'
    go_simp
    with_reducible rfl
   rotate_left
   ·simp only [Act.put, zA, zZ, zS, aI, aJ]
    rfl
   refine aQ (i := 6) (N := some 20) (v := ?_) (a' := ?_) #[true, true, true, true, true, true, true, false, false, true, false, false, false, false, false, false] rfl rfl (by kernel_rfl) (fun _ _ _ h => h) (Or.inl ⟨by rfl, ?_⟩) ?_ ?_
   rotate_left
   ·intro w'
    go_simp
    with_reducible rfl
   rotate_left
   ·simp only [Act.put, zA, zZ, zS, aI, aJ]
    rfl
   refine aQ (i := 7) (N := some 21) (v := ?_) (a' := ?_) #[true, true, true, true, true, true, true, true, false, true, false, false, false, false, false, false] rfl rfl (by kernel_rfl) (fun _ _ _ h => h) (Or.inl ⟨by rfl, ?_⟩) ?_ ?_
   rotate_left
   ·intro w'
    go_simp
    with_reducible rfl
   rotate_left
   ·simp only [Act.put, zA, zZ, zS, aI, aJ]
    rfl
   refine dD (i := 8) (N := some 22) (v := ?_) (a' := ?_) #[true, true, true, true, true, true, true, true, true, true, false, false, false, false, false, false] rfl rfl (by kernel_rfl) (fun _ _ _ h => h) (Or.inl ⟨by rfl, ?_⟩) hHeld ?_ ?_
   rotate_left
   ·rintro w' ⟨s0, s1, s2, s3⟩
    go_simp
    with_reducible rfl
   rotate_left
   ·simp only [Act.put, zA, zZ, zS, aI, aJ]
    rfl
   refine aQ (i := 10) (N := some 24) (v := ?_) (a' := ?_) #[true, true, true, true, true, true, true, true, true, true, true, false, false, false, false, false] rfl rfl (by kernel_rfl) (fun _ _ _ h => h) (Or.inl ⟨by rfl, ?_⟩) ?_ ?_
   rotate_left
   ·intro w'
    go_simp
    with_reducible rfl
   rotate_left
   ·simp only [Act.put, zA, zZ, zS, aI, aJ]
    rfl
   refine aQ (i := 11) (N := some 25) (v := ?_) (a' := ?_) #[true, true, true, true, true, true, true, true, true, true, true, true, false, false, false, false] rfl rfl (by kernel_rfl) (fun _ _ _ h => h) (Or.inl ⟨by rfl, ?_⟩) ?_ ?_
   rotate_left
   ·intro w'
    go_simp
    with_reducible rfl
   rotate_left
   ·simp only [Act.put, zA, zZ, zS, aI, aJ]
    rfl
   refine dD (i := 12) (N := some 26) (v := ?_) (a' := ?_) #[true, true, true, true, true, true, true, true, true, true, true, true, true, false, false, false] rfl rfl (by kernel_rfl) (fun _ _ _ h => h) (Or.inl ⟨by rfl, ?_⟩) hHeld ?_ ?_
   rotate_left
   ·rintro w' ⟨s0, s1, s2, s3⟩
    go_simp
    with_reducible rfl
   rotate_left
   ·simp only [Act.put, zA, zZ, zS, aI, aJ]
    rfl
   refine aQ (i := 13) (N := some 27) (v := ?_) (a' := ?_) #[true, true, true, true, true, true, true, true, true, true, true, true, true, true, false, false] rfl rfl (by kernel_rfl) (fun _ _ _ h => h) (Or.inl ⟨by rfl, ?_⟩) ?_ ?_
   rotate_left
   ·intro w'
    go_simp
    with_reducible rfl
   rotate_left
   ·simp only [Act.put, zA, zZ, zS, aI, aJ]
    rfl
   refine aQ (i := 14) (N := some 28) (v := ?_) (a' := ?_) #[true, true, true, true, true, true, true, true, true, true, true, true, true, true, true, false] rfl rfl (by kernel_rfl) (fun _ _ _ h => h) (Or.inl ⟨by rfl, ?_⟩) ?_ ?_
   rotate_left
   ·intro w'
    go_simp
    with_reducible rfl
   rotate_left
   ·simp only [Act.put, zA, zZ, zS, aI, aJ]
    rfl
   refine aQ (i := 15) (N := some 29) (v := ?_) (a' := ?_) #[true, true, true, true, true, true, true, true, true, true, true, true, true, true, true, true] rfl rfl (by kernel_rfl) (fun _ _ _ h => h) (Or.inl ⟨by rfl, ?_⟩) ?_ ?_
   rotate_left
   ·intro w'
    go_simp
    with_reducible rfl
   rotate_left
   ·simp only [Act.put, zA, zZ, zS, aI, aJ]
    rfl
   refine jR (by kernel_rfl) ?_
   go_wp2
   go_ret
   exact ⟨by rw [HE.out]; rfl, fE (Below.refl _ _)⟩
  ·have HE : aA (R = 0) := ⟨by rw [HR.out, if_neg (by rintro (h | h) <;> contradiction)]⟩
   have hd2 : decide ((x.f1.size : Int) < size) = false := by simpa using hb
   clear hs hb
   go_enter Tryz.func163, Tryz.ntmps163
   go_wp2_with (go_at_call 160; refine (o8 _ _ _).mono ?_; rintro e w' ⟨rfl, rfl⟩)
   refine gK (n := 16) (S := fun w' => w'.cell? ⟨b2, 0, none⟩ = some (.int .i64 size) ∧ w'.cell? ⟨b1, 0, none⟩ = some (.pointer (some ⟨gp, 0, none⟩)) ∧ w'.cell? ⟨gp, 0, none⟩ = some (.slice (some ⟨g, 0, none⟩) l.length c) ∧ w'.cell? ⟨g, i * 3 + 1, none⟩ = some (.string x.f1)) (ds := []) #[false, false, false, false, false, false, false, false, false, false, false, false, false, false, false, false] (by kernel_rfl) rfl rfl ⟨s3, s1, s2, s4⟩ (fun hHeld => ?_)
   refine dD (i := 0) (N := some 14) (v := ?_) (a' := ?_) #[true, false, false, false, false, false, false, false, false, false, false, false, false, false, false, false] rfl rfl (by kernel_rfl) (fun _ _ _ h => h) (Or.inl ⟨by rfl, ?_⟩) hHeld ?_ ?_
   rotate_left
   ·rintro w' ⟨s0, s1, s2, s3⟩
    go_simp
    with_reducible rfl
   rotate_left
   ·simp only [Act.put, zA, zZ, zS, aI, aJ]
    rfl
   refine aQ (i := 1) (N := some 15) (v := ?_) (a' := ?_) #[true, true, false, false, false, false, false, false, false, false, false, false, false, false, false, false] rfl rfl (by kernel_rfl) (fun _ _ _ h => h) (Or.inl ⟨by rfl, ?_⟩) ?_ ?_
   rotate_left
   ·intro w'
    go_simp
    with_reducible rfl
   rotate_left
   ·simp only [Act.put, zA, zZ, zS, aI, aJ]
    rfl
   refine aQ (i := 2) (N := some 16) (v := ?_) (a' := ?_) #[true, true, true, false, false, false, false, false, false, false, false, false, false, false, false, false] rfl rfl (by kernel_rfl) (fun _ _ _ h => h) (Or.inl ⟨by rfl, ?_⟩) ?_ ?_
   rotate_left
   ·intro w'
    go_simp
    with_reducible rfl
   rotate_left
   ·simp only [Act.put, zA, zZ, zS, aI, aJ]
    rfl
   refine aQ (i := 9) (N := some 23) (v := ?_) (a' := ?_) #[true, true, true, false, false, false, false, false, false, true, false, false, false, false, false, false] rfl rfl (by kernel_rfl) (fun _ _ _ h => h) (Or.inl ⟨by rfl, ?_⟩) ?_ ?_
   rotate_left
   ·intro w'
    go_simp
    with_reducible rfl
   rotate_left
   ·simp only [Act.put, zA, zZ, zS, aI, aJ]
    rfl
   refine dD (i := 3) (N := some 17) (v := ?_) (a' := ?_) #[true, true, true, true, false, false, false, false, false, true, false, false, false, false, false, false] rfl rfl (by kernel_rfl) (fun _ _ _ h => h) (Or.inl ⟨by rfl, ?_⟩) hHeld ?_ ?_
   rotate_left
   ·rintro w' ⟨s0, s1, s2, s3⟩
    go_simp
    with_reducible rfl
   rotate_left
   ·simp only [Act.put, zA, zZ, zS, aI, aJ]
    rfl
   refine dD (i := 4) (N := some 18) (v := ?_) (a' := ?_) #[true, true, true, true, true, false, false, false, false, true, false, false, false, false, false, false] rfl rfl (by kernel_rfl) (fun _ _ _ h => h) (Or.inl ⟨by rfl, ?_⟩) hHeld ?_ ?_
   rotate_left
   ·rintro w' ⟨s0, s1, s2, s3⟩
    go_simp
    with_reducible rfl
   rotate_left
   ·simp only [Act.put, zA, zZ, zS, aI, aJ]
    rfl
   refine aQ (i := 5) (N := some 19) (v := ?_) (a' := ?_) #[true, true, true, true, true, true, false, false, false, true, false, false, false, false, false, false] rfl rfl (by kernel_rfl) (fun _ _ _ h => h) (Or.inl ⟨by rfl, ?_⟩) ?_ ?_
   rotate_left
   ·intro w'
    go_simp
    with_reducible rfl
   rotate_left
   ·simp only [Act.put, zA, zZ, zS, aI, aJ]
    rfl
   refine aQ (i := 6) (N := some 20) (v := ?_) (a' := ?_) #[true, true, true, true, true, true, true, false, false, true, false, false, false, false, false, false] rfl rfl (by kernel_rfl) (fun _ _ _ h => h) (Or.inl ⟨by rfl, ?_⟩) ?_ ?_
   rotate_left
   ·intro w'
    go_simp
    with_reducible rfl
   rotate_left
   ·simp only [Act.put, zA, zZ, zS, aI, aJ]
    rfl
   refine aQ (i := 7) (N := some 21) (v := ?_) (a' := ?_) #[true, true, true, true, true, true, true, true, false, true, false, false, false, false, false, false] rfl rfl (by kernel_rfl) (fun _ _ _ h => h) (Or.inl ⟨by rfl, ?_⟩) ?_ ?_
   rotate_left
   ·intro w'
    go_simp
    with_reducible rfl
   rotate_left
   ·simp only [Act.put, zA, zZ, zS, aI, aJ]
    rfl
   refine dD (i := 8) (N := some 22) (v := ?_) (a' := ?_) #[true, true, true, true, true, true, true, true, true, true, false, false, false, false, false, false] rfl rfl (by kernel_rfl) (fun _ _ _ h => h) (Or.inl ⟨by rfl, ?_⟩) hHeld ?_ ?_
   rotate_left
   ·rintro w' ⟨s0, s1, s2, s3⟩
    go_simp
    with_reducible rfl
   rotate_left
   ·simp only [Act.put, zA, zZ, zS, aI, aJ]
    rfl
   refine aQ (i := 10) (N := some 24) (v := ?_) (a' := ?_) #[true, true, true, true, true, true, true, true, true, true, true, false, false, false, false, false] rfl rfl (by kernel_rfl) (fun _ _ _ h => h) (Or.inl ⟨by rfl, ?_⟩) ?_ ?_
   rotate_left
   ·intro w'
    go_simp
    with_reducible rfl
   rotate_left
   ·simp only [Act.put, zA, zZ, zS, aI, aJ]
    rfl
   refine aQ (i := 11) (N := some 25) (v := ?_) (a' := ?_) #[true, true, true, true, true, true, true, true, true, true, true, true, false, false, false, false] rfl rfl (by kernel_rfl) (fun _ _ _ h => h) (Or.inl ⟨by rfl, ?_⟩) ?_ ?_
   rotate_left
   ·intro w'
    go_simp
    with_reducible rfl
   rotate_left
   ·simp only [Act.put, zA, zZ, zS, aI, aJ]
    rfl
   refine dD (i := 12) (N := some 26) (v := ?_) (a' := ?_) #[true, true, true, true, true, true, true, true, true, true, true, true, true, false, false, false] rfl rfl (by kernel_rfl) (fun _ _ _ h => h) (Or.inl ⟨by rfl, ?_⟩) hHeld ?_ ?_
   rotate_left
   ·rintro w' ⟨s0, s1, s2, s3⟩
    go_simp
    with_reducible rfl
   rotate_left
   ·simp only [Act.put, zA, zZ, zS, aI, aJ]
    rfl
   refine aQ (i := 13) (N := some 27) (v := ?_) (a' := ?_) #[true, true, true, true, true, true, true, true, true, true, true, true, true, true, false, false] rfl rfl (by kernel_rfl) (fun _ _ _ h => h) (Or.inl ⟨by rfl, ?_⟩) ?_ ?_
   rotate_left
   ·intro w'
    go_simp
    with_reducible rfl
   rotate_left
   ·simp only [Act.put, zA, zZ, zS, aI, aJ]
    rfl
   refine aQ (i := 14) (N := some 28) (v := ?_) (a' := ?_) #[true, true, true, true, true, true, true, true, true, true, true, true, true, true, true, false] rfl rfl (by kernel_rfl) (fun _ _ _ h => h) (Or.inl ⟨by rfl, ?_⟩) ?_ ?_
   rotate_left
   ·intro w'
    go_simp
    with_reducible rfl
   rotate_left
   ·simp only [Act.put, zA, zZ, zS, aI, aJ]
    rfl
   refine aQ (i := 15) (N := some 29) (v := ?_) (a' := ?_) #[true, true, true, true, true, true, true, true, true, true, true, true, true, true, true, true] rfl rfl (by kernel_rfl) (fun _ _ _ h => h) (Or.inl ⟨by rfl, ?_⟩) ?_ ?_
   rotate_left
   ·intro w'
    go_simp
    with_reducible rfl
   rotate_left
   ·simp only [Act.put, zA, zZ, zS, aI, aJ]
    rfl
   refine jR (by kernel_rfl) ?_
   go_wp2
   go_ret
   exact ⟨by rw [HE.out]; rfl, fE (Below.refl _ _)⟩
set_option maxHeartbeats 4000000 in
set_option maxRecDepth 100000 in
theorem qfT (gp b1 b2 : Nat) (w : World) (base : Nat) (l : List S67) (size : Nat) (A : Option Addr) (c : Nat) (dn : Bool) (fu fa : Int) (i : Nat) (x : S67) (hx : l[i]? = some x) (hsz : size ≤ x.f1.size) (hn : l.length ≤ 64) (hs1 : x.f1.size ≤ 262144) (hb1 : w.heap[b1]? = some (.cells #[.pointer (some ⟨gp, 0, none⟩)] 176 (0, 0)))
  (hb2 : w.heap[b2]? = some (.cells #[.int .i64 (size : Int)] 3 (0, 0))) (hp : V9 w base gp (.slice A l.length c) l dn fu fa) :
  Calls Tryz.prog 164 #[.int .i64 (i : Int), .pointer (some ⟨b1, 0, none⟩), .pointer (some ⟨b2, 0, none⟩)] w (Done w base gp dn fu fa (l.set i ⟨x.f0, x.f1.extract 0 size, (size : Int)⟩)) := by
 obtain ⟨hp, ho⟩ := hp
 have hlt : i < l.length := (List.getElem?_eq_some_iff.1 hx).1
 obtain ⟨g, cur, rfl, _, hg, hh, h3, h4, h5, h6⟩ := lV ho (by omega)
 obtain ⟨e0, e1, e2⟩ := jB l i x hx
 have s1 : w.cell? ⟨b1, 0, none⟩ = some (.pointer (some ⟨gp, 0, none⟩)) := (aG hb1 0).trans rfl
 have s2 : w.cell? ⟨gp, 0, none⟩ = some (.slice (some ⟨g, 0, none⟩) l.length c) := (aG hp 0).trans rfl
 have s3 : w.cell? ⟨b2, 0, none⟩ = some (.int .i64 (size : Int)) := (aG hb2 0).trans rfl
 have s4 : w.cell? ⟨g, i * 3 + 1, none⟩ = some (.string x.f1) := kE hh h6 e1
 have s6 : w.cell? ⟨g, i * 3 + 2, none⟩ = some (.int .i64 x.f2) := kE hh h6 e2
 have s5 := aC hh (i * 3 + 1)
 have s7 := aC hh (i * 3 + 2)
 have ngp : g ≠ gp := fU hh hp (by decide)
 have HX := aA.mk hx
 have HO := aA.mk ho
 have HP := aA.mk hp
 have HH := aA.mk hh
 have NGP := aA.mk ngp
 have HG := aA.mk hg
 have hi0 : (0 : Int) ≤ (i : Int) := by omega
 have hi1 : (i : Int) < (l.length : Int) := by omega
 have hz1 : (0 : Int) ≤ (size : Int) := by omega
 have hz2 : (size : Int) ≤ (x.f1.size : Int) := by omega
 clear hx ho hp hh ngp h3 h4 h5 h6 e0 e1 e2 hb1 hg hb2
 go_enter Tryz.func164, Tryz.ntmps164
 go_wp2
 go_region
 go_end0
 have h1 := zX (u := .string (x.f1.extract 0 size)) HO.out (l' := l.set i ⟨x.f0, x.f1.extract 0 size, x.f2⟩) (by rw [List.length_set]) (jZ l i x _ HX.out) (j := i * 3 + 1) (by omega)
 have hx2 : (l.set i ⟨x.f0, x.f1.extract 0 size, x.f2⟩)[i]? = some (⟨x.f0, x.f1.extract 0 size, x.f2⟩ : S67) := by simp [hlt]
 have h2 := zX (u := .int .i64 (size : Int)) h1 (l' := l.set i ⟨x.f0, x.f1.extract 0 size, (size : Int)⟩) (by rw [List.length_set, List.length_set]) (by
  have := jK _ i _ (size : Int) hx2
  rw [this, List.set_set]) (j := i * 3 + 2) (by rw [List.length_set]; omega)
 rw [List.length_set] at h2
 refine ⟨rfl, .slice (some ⟨g, 0, none⟩) l.length c, bJ (dB (p := ⟨g, i * 3 + 2, none⟩) (dB (p := ⟨g, i * 3 + 1, none⟩) HP.out (fun e => NGP.out e.symm) _) (fun e => NGP.out e.symm) _), h2, fE (((Below.refl base w).setCell HG.out _).setCell HG.out _), fun k cs h => ?_⟩
 have hk := fU h HH.out (by decide)
 exact bJ (dB (p := ⟨g, i * 3 + 2, none⟩) (dB (p := ⟨g, i * 3 + 1, none⟩) h hk _) hk _)
set_option maxHeartbeats 4000000 in
set_option maxRecDepth 100000 in
theorem qbZ (W w1 : World) (gp : Nat) (v : Value) (l : List S67) (dn : Bool) (fu fa : Int) (size : Int) (sd : Int → List S67) (hsd : ∀ (i n : Nat) (x : S67), l[i]? = some x → size = (n : Int) → n ≤ x.f1.size → sd (i : Int) = l.set i ⟨x.f0, x.f1.extract 0 n, (n : Int)⟩) (hb : Below W.heap.size W w1) (hgp : W.heap.size ≤ gp) (hp : w1.heap[gp]? = some (.cells #[v, .bool dn, .int .i64 fu, .int .i64 fa] 211 (0, 0)))
  (ho : Kd.R k67 67 w1 W.heap.size (fun _ => True) v l) (hok : bI l = true) :
  Calls Tryz.prog 120 #[.pointer (some ⟨gp, 0, none⟩), .int .i64 size] w1 fun e w2 => ∃ rv dv : Value, e = .returned (.agg #[rv, dv, .bool false]) ∧ Below w1.heap.size w1 w2 ∧ qeq w2 rv l.length (rfT size l) ∧ DoV W.heap.size gp w2 dv v l (rfT size l) sd := by
 obtain ⟨A, c, rfl⟩ := Kd.dU ho
 have hlt : gp < w1.heap.size := fZ hp
 have hle : l.length ≤ 64 := by
  simp only [bI, Bool.and_eq_true, decide_eq_true_eq] at hok
  exact hok.2
 go_enter Tryz.func120, Tryz.ntmps120
 go_wp2
 refine bodyPost_ret (results_cell_row rfl _ _ (w1.heap.size + 2) 179 #[.func (.func 163) #[] #[.pointer (some ⟨w1.heap.size + 1, 0, none⟩), .pointer (some ⟨w1.heap.size, 0, none⟩)], .func (.func 164) #[] #[.pointer (some ⟨w1.heap.size, 0, none⟩), .pointer (some ⟨w1.heap.size + 1, 0, none⟩)], .bool false] (0, 0) _ rfl (qde w1 _ _ _) Tryz.underlying179 rfl (by kernel_rfl)) rfl ?_
 refine ⟨_, _, rfl, aT (aT (aT (Below.refl _ _) _) _) _, ⟨163, _, rfl, qdo, fun w3 i b hb3 hil hib => ?_⟩, 164, _, rfl, qdp, fun w3 i b dn fu fa hk hil hib hrf hp3 ho3 => ?_⟩
 ·refine fD (args' := #[.int .i64 (i : Int), .bool b, .pointer (some ⟨w1.heap.size + 1, 0, none⟩), .pointer (some ⟨w1.heap.size, 0, none⟩)]) (by simp) ?_
  have OG := hb3 _ _ _ (by decide) (by decide) (by simp) (RG w1 _ _ _)
  have OH := hb3 _ _ _ (by decide) (by decide) (by simp) (RH w1 _ _ _)
  have hpp := hb3 _ _ _ (by decide) (by decide) (by simp) (bD (bD (bD hp _) _) _)
  cases b with
  | false =>
   refine (WC w3 _ _ size l i).mono ?_
   rintro e w4 ⟨rfl, rfl⟩
   exact ⟨rfl, Below.refl _ _⟩
  | true =>
   obtain ⟨x, hx⟩ := uX (hib rfl)
   obtain ⟨g, cur, rfl, _, hg, hh, h3, h4, h5, h6⟩ := lV ho (by have := hib rfl; omega)
   exact YK w3 gp w1.heap.size (w1.heap.size + 1) g cur size l c i x hx hle ((aG OH 0).trans rfl) ((aG OG 0).trans rfl) ((aG hpp 0).trans rfl) (hb3 _ _ _ (by decide) (by decide) (by simp) (bD (bD (bD hh _) _) _)) h6
 ·refine fD (args' := #[.int .i64 (i : Int), .pointer (some ⟨w1.heap.size, 0, none⟩), .pointer (some ⟨w1.heap.size + 1, 0, none⟩)]) (by simp) ?_
  have OG := hk _ _ _ (by decide) (by decide) (fun h => by injection h with h; omega) (RG w1 _ _ _)
  have OH := hk _ _ _ (by decide) (by decide) (fun h => by injection h with h; omega) (RH w1 _ _ _)
  have hsz : W.heap.size ≤ w3.heap.size := by have := fZ hp3; omega
  have hbt : b = true := by
   cases b
   ·simp [rfT] at hrf
   ·rfl
  subst hbt
  obtain ⟨x, hx⟩ := uX (hib rfl)
  rw [rfT, if_pos rfl, iC hx] at hrf
  split at hrf
  ·cases hrf
  rename_i hno
  obtain ⟨n, rfl⟩ : ∃ n : Nat, size = (n : Int) := ⟨size.toNat, by omega⟩
  have hn : n ≤ x.f1.size := by omega
  refine (qfT gp w1.heap.size (w1.heap.size + 1) w3 W.heap.size l n A c dn fu fa i x hx hn hle (qB hok hx).2.1 OG OH ⟨hp3, ho3⟩).mono fun e w4 h => ?_
  rw [hsd i n x hx rfl hn]
  exact h
set_option maxHeartbeats 4000000 in
set_option maxRecDepth 100000 in
theorem qfU (W : World) (nb : Nat) (l : List S67) (dn : Bool) (fu fa : Int) (size : Int) (sd : Int → List S67) (hsd : ∀ (i n : Nat) (x : S67), l[i]? = some x → size = (n : Int) → n ≤ x.f1.size → sd (i : Int) = l.set i ⟨x.f0, x.f1.extract 0 n, (n : Int)⟩) (hnb : W.heap[nb]? = some (.cells #[.int .i64 size] 3 (0, 0))) :
  OfV W 119 #[.pointer (some ⟨nb, 0, none⟩)] l dn fu fa false (rfT size l) sd := by
 intro w1 gp v hb hgp hp ho hok
 have hc := (aG (bG hnb hb) 0).trans rfl
 refine fD (args' := #[.pointer (some ⟨gp, 0, none⟩), .pointer (some ⟨nb, 0, none⟩)]) (by simp) ?_
 have HB := aA.mk hb
 have HGP := aA.mk hgp
 have HP := aA.mk hp
 have HO := aA.mk ho
 have HOK := aA.mk hok
 clear hb hgp hp ho hok hnb
 go_enter Tryz.func119, Tryz.ntmps119
 go_wp2_with (first
 |((with_reducible refine aN (N := 3) rfl ?_);
   refine dH ?hg (N := 3) ?hd (cs := #[.nilFunc, .nilFunc, .bool false]) (t := 179) ?hr ?_;
   (case hd => rfl); (case hg => rfl); (case hr => first | (go_simp; done) | (go_simp; rfl));
   intro g3 hg w2 hbox hb2;
   have N3 := aA.mk (show w1.heap.size ≤ g3 by rw [hg]; exact Nat.le_refl _);
   have hc2 := (hb2.cell (World.block_lt_of_cell? w1 _ hc)).trans hc;
   have HB2 := aA.mk hb2; have BK3 := aA.mk hbox; clear hg hbox hb2 hc)
 |fail)
 refine ((qbZ W _ gp v l dn fu fa size sd hsd (bC HB.out HB2.out) HGP.out (bG HP.out HB2.out) (Kd.pJ HO.out HB2.out) HOK.out).mono ?_)
 rintro e w4 ⟨rv, dv, rfl, hb4, ⟨Kr, cr, rfl, hKr, hrf⟩, ⟨Kd_, cd, rfl, hKd, hdo⟩⟩
 have HKr := aA.mk hKr
 have Hrf := aA.mk hrf
 have HKd := aA.mk hKd
 have Hdo := aA.mk hdo
 have HB4 := aA.mk hb4
 have bk := bG BK3.out hb4
 have c0 := (aG bk 0).trans rfl
 have c1 := (aG bk 1).trans rfl
 have c2 := (aG bk 2).trans rfl
 have f0 := aC bk 0
 have f1 := aC bk 1
 have f2 := aC bk 2
 have BK4 := aA.mk bk
 clear hKr hrf hKd hdo hb4 bk
 go_wp2
 refine bodyPost_ret (results_cell_row rfl _ _ g3 179 #[.func (.func Kr) #[] cr, .func (.func Kd_) #[] cd, .bool false] (0, 0) _ rfl (qer BK4.out _ _ _) Tryz.underlying179 rfl (by kernel_rfl)) rfl ?_
 have hw4 : Below w1.heap.size w1 w4 := bC HB2.out HB4.out
 have hgg : ∀ (k : Nat), k ≠ g3 → (((w4.setCell ⟨g3, 0, none⟩ (.func (.func Kr) #[] cr)).setCell ⟨g3, 1, none⟩ (.func (.func Kd_) #[] cd)).setCell ⟨g3, 2, none⟩ (.bool false)).heap[k]? = w4.heap[k]? := fun k hk =>
  ((Below.heap_setCell _ ⟨g3, 2, none⟩ _ k hk).trans (Below.heap_setCell _ ⟨g3, 1, none⟩ _ k hk)).trans (Below.heap_setCell _ ⟨g3, 0, none⟩ _ k hk)
 refine ⟨_, _, rfl, below3 hw4 N3.out _ _ _, ⟨Kr, cr, rfl, HKr.out, ?_⟩, Kd_, cd, rfl, HKd.out, ?_⟩
 ·intro w5 i b hk hil hib
  refine Hrf.out w5 i b (fun k cs t h1 h2 h3 h4 => hk k cs t h1 h2 h3 ?_) hil hib
  rw [hgg k (fun e => by subst e; exact absurd h4 (qbW BK4.out h1))]
  exact h4
 ·intro w5 i b dn fu fa hk
  refine Hdo.out w5 i b dn fu fa (fun k cs t h1 h2 h3 h4 => hk k cs t h1 h2 h3 ?_)
  rw [hgg k (fun e => by subst e; exact absurd h4 (qbW BK4.out h1))]
  exact h4
theorem lZ (g k : Nat) (hk : k ≠ g) : ∀ (vs : List Value) (o : Nat) (w : World), (w.setCells g o vs).heap[k]? = w.heap[k]?
 | [], _, _ => rfl
 | v :: r, o, w => by
  rw [World.setCells, lZ g k hk r (o + 1)]
  exact Below.heap_setCell w ⟨g, o, none⟩ v k hk
theorem l7 {B g : Nat} {w : World} (hB : B ≤ g) : ∀ (vs : List Value) (o : Nat) (W : World), Below B w W → Below B w (W.setCells g o vs)
 | [], _, _, h => h
 | v :: r, o, W, h => l7 hB r (o + 1) _ (h.setCell hB v)
def qb3 : List Value → Nat → List Value → List Value
 | xs, _, [] => xs
 | xs, o, v :: r => qb3 (xs.set o v) (o + 1) r
theorem vV : ∀ (vs xs : List Value) (o : Nat), o + vs.length ≤ xs.length → qb3 xs o vs = xs.take o ++ vs ++ xs.drop (o + vs.length)
 | [], xs, o, h => by simp [qb3]
 | v :: r, xs, o, h => by
  simp only [List.length_cons] at h
  rw [qb3, vV r (xs.set o v) (o + 1) (by rw [List.length_set]; omega)]
  rw [List.take_set, List.drop_set_of_lt (by omega), List.length_cons, show o + 1 + r.length = o + (r.length + 1) by omega]
  have h1 : (xs.take (o + 1)).set o v = xs.take o ++ [v] := by
   rw [List.take_succ_eq_append_getElem (by omega), List.set_append_right _ _ (by rw [List.length_take]; omega)]
   rw [List.length_take, show o - min o xs.length = 0 by omega]
   rfl
  rw [h1]
  simp
theorem kV (g t : Nat) : ∀ (vs : List Value) (o : Nat) (w : World) (cur : Array Value), w.heap[g]? = some (.cells cur t (0, 0)) → ∃ cur', (w.setCells g o vs).heap[g]? = some (.cells cur' t (0, 0)) ∧ cur'.size = cur.size ∧ cur'.toList = qb3 cur.toList o vs
 | [], o, w, cur, h => ⟨cur, h, rfl, rfl⟩
 | v :: r, o, w, cur, h => by
  obtain ⟨cur', h1, h2, h3⟩ := kV g t r (o + 1) (w.setCell ⟨g, o, none⟩ v) (cur.setIfInBounds o v) (FZ h o v)
  exact ⟨cur', h1, by simpa using h2, by rw [h3]; simp [qb3]⟩
theorem qfV (w : World) : (zeroValue 67).run Tryz.prog w = .ok (.agg #[.string ⟨#[]⟩, .string ⟨#[]⟩, .int .i64 0]) w := by kernel_rfl
theorem WE (w : World) (ty g o c : Nat) (hc : ∀ j, j < 3 → (w.cell? ⟨g, o + j, none⟩).isSome = true) (hf : ∀ j, j < 3 → w.frozen? ⟨g, o + j, none⟩ = false) :
  (Builtin.clear_ #[25] ty #[.slice (some ⟨g, o, none⟩) 1 c]).run Tryz.prog w = .ok (.tuple #[]) (w.setCells g o [.string ⟨#[]⟩, .string ⟨#[]⟩, .int .i64 0]) := by
 have hzc : (Builtin.zeroCells (Value.agg #[.string ⟨#[]⟩, .string ⟨#[]⟩, .int .i64 0]).cells 1).toList = [.string ⟨#[]⟩, .string ⟨#[]⟩, .int .i64 0] := by kernel_rfl
 have hst := run_storeCells_cells (P := Tryz.prog) g o [.string ⟨#[]⟩, .string ⟨#[]⟩, .int .i64 0] 0 w (by simpa using hc) (by simpa using hf) (by intro v hv'; simp at hv'; rcases hv' with rfl | rfl | rfl <;> rfl)
 simp only [Nat.add_zero] at hst
 simp [Builtin.clear_, run_underlying Tryz.underlying25, qfV, hzc, hst]
set_option maxHeartbeats 8000000 in
set_option maxRecDepth 100000 in
theorem CU (w : World) (base : Nat) (l : List S67) (g c : Nat) (i m : Nat) (hl : l.length = i + m + 1) (hn : l.length ≤ 64) (ho : Kd.R k67 67 w base (fun _ => True) (.slice (some ⟨g, 0, none⟩) l.length c) l) :
  Calls Tryz.prog 162 #[.slice (some ⟨g, 0, none⟩) (i + m + 1) c, .int .i64 (i : Int), .int .i64 ((i : Int) + 1)] w fun e w4 => e = .returned (.slice (some ⟨g, 0, none⟩) (i + m) c) ∧
   Kd.R k67 67 w4 base (fun _ => True) (.slice (some ⟨g, 0, none⟩) (i + m) c) (l.take i ++ l.drop (i + 1)) ∧ Below base w w4 ∧ ∀ k, k ≠ g → w4.heap[k]? = w.heap[k]? := by
 obtain ⟨g', cur, e, _, hg, hh, h3, h4, h5, h6⟩ := lV ho (by omega)
 injection e with e
 injection e with e
 subst e
 obtain ⟨i0, hi0, hz0, hz1, hz2⟩ := GI
 have hic : i + m + 1 ≤ c := by omega
 have him : i + m + 1 ≤ 64 := by omega
 have hi7 : i ≤ c := by omega
 have hcm : c ≤ 9223372036854775807 := by unfold maxLen at h4; omega
 have hne : ((i : Int) == (i : Int) + 1) = false := by simp; omega
 have HL := aA.mk hl
 have HI0 := aA.mk hi0
 have HZ1 := aA.mk hz1
 have HH := aA.mk hh
 have H6 := aA.mk h6
 have HG := aA.mk hg
 have H5 := aA.mk h5
 have hnews : aA ((cellsOf (l.drop (i + 1))).length = m * 3) := ⟨by rw [cellsOf_length, List.length_drop]; omega⟩
 have hspare : aA (∀ j, j < (cellsOf (l.drop (i + 1))).length → (w.drew.cell? ⟨g, 0 + i * 3 + j, none⟩).isSome = true ∧ w.drew.frozen? ⟨g, 0 + i * 3 + j, none⟩ = false) := ⟨fun j hj => by
  rw [hnews.out] at hj
  refine ⟨?_, aC (bJ hh) _⟩
  rw [aG (bJ hh), Array.getElem?_eq_getElem (by omega)]
  rfl⟩
 have hcell : aA (∀ j u, (cellsOf (l.drop (i + 1)))[j]? = some u → w.drew.cell? ⟨g, (i + 1) * 3 + j, none⟩ = some u) := ⟨fun j u hu => by
  rw [kY, List.getElem?_drop] at hu
  exact kE (bJ hh) h6 hu⟩
 clear hl hi0 hz0 hz1 hz2 hh h6 hg h5 h4 h3 ho hn
 have hend : ∀ W : World, W = (w.drew.setCells g (0 + i * 3) (cellsOf (l.drop (i + 1)))) → aA ((∀ j, j < 3 → (W.cell? ⟨g, (i + m) * 3 + j, none⟩).isSome = true) ∧ (∀ j, j < 3 → W.frozen? ⟨g, (i + m) * 3 + j, none⟩ = false) ∧
   Kd.R k67 67 (W.setCells g ((i + m) * 3) [.string ⟨#[]⟩, .string ⟨#[]⟩, .int .i64 0]) base (fun _ => True) (.slice (some ⟨g, 0, none⟩) (i + m) c) (l.take i ++ l.drop (i + 1)) ∧ Below base w (W.setCells g ((i + m) * 3) [.string ⟨#[]⟩, .string ⟨#[]⟩, .int .i64 0]) ∧
   ∀ k, k ≠ g → (W.setCells g ((i + m) * 3) [.string ⟨#[]⟩, .string ⟨#[]⟩, .int .i64 0]).heap[k]? = w.heap[k]?) := by
  rintro W rfl
  obtain ⟨qfW, hc1, hs1, hl1⟩ := kV g 67 (cellsOf (l.drop (i + 1))) (0 + i * 3) w.drew cur (bJ HH.out)
  obtain ⟨qfX, hc2, hs2, hl2⟩ := kV g 67 [.string ⟨#[]⟩, .string ⟨#[]⟩, .int .i64 0] ((i + m) * 3) _ qfW hc1
  have hsz : cur.size = c * 3 := H5.out
  have hct : cur.toList.length = c * 3 := by simpa using hsz
  refine ⟨fun j hj => ?_, fun j hj => aC hc1 _, ?_, ?_, fun k hk => ?_⟩
  ·rw [aG hc1, Array.getElem?_eq_getElem (by omega)]
   rfl
  ·have hlen : (l.take i ++ l.drop (i + 1)).length = i + m := by rw [List.length_append, List.length_take, List.length_drop, HL.out]; omega
   refine oL ⟨by rw [cellsOf_length], .inr ⟨g, c, qfX, by rw [hlen], HG.out, hc2, by omega, ?_, by omega, ?_⟩⟩
   ·unfold maxLen; omega
   ·rw [hl2, hl1, hlen, vV _ _ _ (by
     rw [vV _ _ _ (by rw [hnews.out, hct]; omega)]
     simp [hct, hnews.out]; omega)]
    rw [vV _ _ _ (by rw [hnews.out, hct]; omega), pO, jY, hnews.out, Nat.zero_add]
    have h6 := H6.out
    have e1 : cur.toList.take (i * 3) = (cellsOf l).take (i * 3) := by rw [← h6, List.take_take]; congr 1; rw [HL.out]; omega
    have e2 : (cur.toList.take (i * 3) ++ cellsOf (l.drop (i + 1))).length = (i + m) * 3 := by rw [List.length_append, List.length_take, hnews.out, hct]; omega
    rw [List.append_assoc, List.take_append_of_le_length (by rw [List.length_take, List.length_append, List.length_append, List.length_take, hnews.out, hct, List.length_drop, hct]; omega)]
    rw [List.take_take, Nat.min_self, List.take_append_of_le_length (by omega), ← e2, List.take_length, e1]
  ·exact l7 HG.out _ _ _ (l7 HG.out _ _ _ (fE (Below.refl base w)))
  ·rw [lZ g k hk, lZ g k hk]
   rfl
 have CV := aA.mk hend
 clear hend
 have TG : ∀ (ty c' : Nat) (W : World), W = (w.drew.setCells g (0 + i * 3) (cellsOf (l.drop (i + 1)))) → (Builtin.clear_ #[25] ty #[.slice (some ⟨g, (i + m) * 3, none⟩) 1 c']).run Tryz.prog W = .ok (.tuple #[]) (W.setCells g ((i + m) * 3) [.string ⟨#[]⟩, .string ⟨#[]⟩, .int .i64 0]) := fun ty c' W hW =>
  WE W ty g ((i + m) * 3) c' ((CV.out W hW).out.1) ((CV.out W hW).out.2.1)
 have OI := aA.mk TG
 clear TG
 by_cases hci : c = i + 1
 ·have hm0 : m = 0 := by omega
  subst hm0
  subst hci
  simp only [Nat.add_zero] at CV OI HL hic him ⊢
  have z1 : (i : Int) ≤ (i : Int) + 1 := by omega
  have z2 : (0 : Int) ≤ (i : Int) + 1 := by omega
  go_enter Tryz.func162, Tryz.ntmps162
  go_wp2
  refine gK (n := 8) (S := fun w' => True) (ds := []) #[false, false, false, false, false, false, false, false] (by kernel_rfl) rfl rfl trivial (fun hHeld => ?_)
  refine aQ (i := 0) (N := some 20) (v := ?_) (a' := ?_) #[true, false, false, false, false, false, false, false] rfl rfl (by kernel_rfl) (fun _ _ _ h => h) (Or.inl ⟨by rfl, ?_⟩) ?_ ?_
  rotate_left
  ·intro w'
   go_simp
   with_reducible rfl
  rotate_left
  ·simp only [Act.put, zA, zZ, zS, aI, aJ]
   rfl
  refine aQ (i := 1) (N := some 21) (v := ?_) (a' := ?_) #[true, true, false, false, false, false, false, false] rfl rfl (by kernel_rfl) (fun _ _ _ h => h) (Or.inl ⟨by rfl, ?_⟩) ?_ ?_
  rotate_left
  ·intro w'
   go_simp
   with_reducible rfl
  rotate_left
  ·simp only [Act.put, zA, zZ, zS, aI, aJ]
   rfl
  refine aQ (i := 2) (N := some 22) (v := ?_) (a' := ?_) #[true, true, true, false, false, false, false, false] rfl rfl (by kernel_rfl) (fun _ _ _ h => h) (Or.inl ⟨by rfl, ?_⟩) ?_ ?_
  rotate_left
  ·intro w'
   go_simp
   with_reducible rfl
  rotate_left
  ·simp only [Act.put, zA, zZ, zS, aI, aJ]
   rfl
  refine aQ (i := 3) (N := some 23) (v := ?_) (a' := ?_) #[true, true, true, true, false, false, false, false] rfl rfl (by kernel_rfl) (fun _ _ _ h => h) (Or.inl ⟨by rfl, ?_⟩) ?_ ?_
  rotate_left
  ·intro w'
   go_simp
   with_reducible rfl
  rotate_left
  ·simp only [Act.put, zA, zZ, zS, aI, aJ]
   rfl
  refine aQ (i := 4) (N := some 24) (v := ?_) (a' := ?_) #[true, true, true, true, true, false, false, false] rfl rfl (by kernel_rfl) (fun _ _ _ h => h) (Or.inl ⟨by rfl, ?_⟩) ?_ ?_
  rotate_left
  ·intro w'
   go_simp
   with_reducible rfl
  rotate_left
  ·simp only [Act.put, zA, zZ, zS, aI, aJ]
   rfl
  refine aQ (i := 5) (N := some 25) (v := ?_) (a' := ?_) #[true, true, true, true, true, true, false, false] rfl rfl (by kernel_rfl) (fun _ _ _ h => h) (Or.inl ⟨by rfl, ?_⟩) ?_ ?_
  rotate_left
  ·intro w'
   go_simp
   with_reducible rfl
  rotate_left
  ·simp only [Act.put, zA, zZ, zS, aI, aJ]
   rfl
  refine lX (i := 6) (N := some 26) #[true, true, true, true, true, true, true, false] rfl rfl (by kernel_rfl) (by decide) (fun K hK => ?_)
  refine step_append_room rfl (.tmp 22) (.tmp 25) 25 rfl 67 i0 3 Tryz.underlying25 HI0.out HZ1.out g 0 i (i + 1) rfl ⟨g, 0, none⟩ 0 0 (cellsOf (l.drop (i + 1))) rfl hnews.out ?ncz (qO _) (by omega) hspare.out ?_
  case ncz => intro j u hu; exact absurd (List.getElem?_eq_some_iff.1 hu).1 (by rw [hnews.out]; omega)
  refine hK.out _ _ trivial (fun hHeld => ?_)
  clear hK K
  refine fO (a' := ?_) ?_ ?_
  rotate_left
  ·show Act.put _ (some 26) _ = _
   simp only [Act.put, zA, zZ, zS, aI, aJ]
   rfl
  refine aQ (i := 7) (N := some 0) (v := ?_) (a' := ?_) #[true, true, true, true, true, true, true, true] rfl rfl (by kernel_rfl) (fun _ _ _ h => h) (Or.inl ⟨by rfl, ?_⟩) ?_ ?_
  rotate_left
  ·intro w'
   go_simp
   with_reducible rfl
  rotate_left
  ·simp only [Act.put, zA, zZ, zS, aI, aJ]
   rfl
  refine jR (by kernel_rfl) ?_
  obtain ⟨W, hW⟩ : ∃ W, W = (w.drew.setCells g (0 + i * 3) (cellsOf (l.drop (i + 1)))) := ⟨_, rfl⟩
  rw [← hW]
  have TG := fun ty c' => OI.out ty c' W hW
  have HW := CV.out W hW
  clear hW CV OI hHeld
  go_wp2
  go_ret
  exact ⟨rfl, HW.out.2.2.1, HW.out.2.2.2.1, HW.out.2.2.2.2⟩
 ·have z2 : (0 : Int) ≤ (i : Int) + 1 := by omega
  have z3 : (i : Int) + 1 ≤ (i : Int) + (m : Int) + 1 := by omega
  have z4 : i + 1 ≤ c := by omega
  have z5 : (i : Int) + 1 ≤ (c : Int) := by omega
  go_enter Tryz.func162, Tryz.ntmps162
  go_wp2
  refine gK (n := 8) (S := fun w' => True) (ds := []) #[false, false, false, false, false, false, false, false] (by kernel_rfl) rfl rfl trivial (fun hHeld => ?_)
  refine aQ (i := 0) (N := some 20) (v := ?_) (a' := ?_) #[true, false, false, false, false, false, false, false] rfl rfl (by kernel_rfl) (fun _ _ _ h => h) (Or.inl ⟨by rfl, ?_⟩) ?_ ?_
  rotate_left
  ·intro w'
   go_simp
   with_reducible rfl
  rotate_left
  ·simp only [Act.put, zA, zZ, zS, aI, aJ]
   rfl
  refine aQ (i := 1) (N := some 21) (v := ?_) (a' := ?_) #[true, true, false, false, false, false, false, false] rfl rfl (by kernel_rfl) (fun _ _ _ h => h) (Or.inl ⟨by rfl, ?_⟩) ?_ ?_
  rotate_left
  ·intro w'
   go_simp
   with_reducible rfl
  rotate_left
  ·simp only [Act.put, zA, zZ, zS, aI, aJ]
   rfl
  refine aQ (i := 2) (N := some 22) (v := ?_) (a' := ?_) #[true, true, true, false, false, false, false, false] rfl rfl (by kernel_rfl) (fun _ _ _ h => h) (Or.inl ⟨by rfl, ?_⟩) ?_ ?_
  rotate_left
  ·intro w'
   go_simp
   with_reducible rfl
  rotate_left
  ·simp only [Act.put, zA, zZ, zS, aI, aJ]
   rfl
  refine aQ (i := 3) (N := some 23) (v := ?_) (a' := ?_) #[true, true, true, true, false, false, false, false] rfl rfl (by kernel_rfl) (fun _ _ _ h => h) (Or.inl ⟨by rfl, ?_⟩) ?_ ?_
  rotate_left
  ·intro w'
   go_simp
   with_reducible rfl
  rotate_left
  ·simp only [Act.put, zA, zZ, zS, aI, aJ]
   rfl
  refine aQ (i := 4) (N := some 24) (v := ?_) (a' := ?_) #[true, true, true, true, true, false, false, false] rfl rfl (by kernel_rfl) (fun _ _ _ h => h) (Or.inl ⟨by rfl, ?_⟩) ?_ ?_
  rotate_left
  ·intro w'
   go_simp
   with_reducible rfl
  rotate_left
  ·simp only [Act.put, zA, zZ, zS, aI, aJ]
   rfl
  refine aQ (i := 5) (N := some 25) (v := ?_) (a' := ?_) #[true, true, true, true, true, true, false, false] rfl rfl (by kernel_rfl) (fun _ _ _ h => h) (Or.inl ⟨by rfl, ?_⟩) ?_ ?_
  rotate_left
  ·intro w'
   go_simp
   with_reducible rfl
  rotate_left
  ·simp only [Act.put, zA, zZ, zS, aI, aJ]
   rfl
  refine lX (i := 6) (N := some 26) #[true, true, true, true, true, true, true, false] rfl rfl (by kernel_rfl) (by decide) (fun K hK => ?_)
  refine step_append_room rfl (.tmp 22) (.tmp 25) 25 rfl 67 i0 3 Tryz.underlying25 HI0.out HZ1.out g 0 i c rfl ⟨g, (i + 1) * 3, none⟩ m (c - (i + 1)) (cellsOf (l.drop (i + 1))) rfl hnews.out ?ncg (qO _) (by omega) hspare.out ?_
  case ncg => intro j u hu; rw [add_plain']; exact hcell.out j u hu
  refine hK.out _ _ trivial (fun hHeld => ?_)
  clear hK K
  refine fO (a' := ?_) ?_ ?_
  rotate_left
  ·show Act.put _ (some 26) _ = _
   simp only [Act.put, zA, zZ, zS, aI, aJ]
   rfl
  refine aQ (i := 7) (N := some 0) (v := ?_) (a' := ?_) #[true, true, true, true, true, true, true, true] rfl rfl (by kernel_rfl) (fun _ _ _ h => h) (Or.inl ⟨by rfl, ?_⟩) ?_ ?_
  rotate_left
  ·intro w'
   go_simp
   with_reducible rfl
  rotate_left
  ·simp only [Act.put, zA, zZ, zS, aI, aJ]
   rfl
  refine jR (by kernel_rfl) ?_
  obtain ⟨W, hW⟩ : ∃ W, W = (w.drew.setCells g (0 + i * 3) (cellsOf (l.drop (i + 1)))) := ⟨_, rfl⟩
  rw [← hW]
  have TG := fun ty c' => OI.out ty c' W hW
  have HW := CV.out W hW
  clear hW CV OI hHeld
  go_wp2
  go_ret
  exact ⟨rfl, HW.out.2.2.1, HW.out.2.2.2.1, HW.out.2.2.2.2⟩
theorem WG {B : Nat} {w W : World} (h : Below B w.drew W) : Below B w W := ⟨h.os, h.tape, h.output, h.size, h.block⟩
theorem qdq : Enters 161 := fun args w => jW Tryz.func161 (by kernel_rfl) (by kernel_rfl) args w
set_option maxHeartbeats 8000000 in
set_option maxRecDepth 100000 in
theorem qb4 (gp b1 : Nat) (w : World) (base : Nat) (l : List S67) (A : Option Addr) (c : Nat) (dn : Bool) (fu fa : Int) (i : Nat) (hlt : i < l.length) (hn : l.length ≤ 64) (hb1 : w.heap[b1]? = some (.cells #[.pointer (some ⟨gp, 0, none⟩)] 176 (0, 0)))
  (hp : V9 w base gp (.slice A l.length c) l dn fu fa) (qdi : base ≤ gp) :
  Calls Tryz.prog 161 #[.int .i64 (i : Int), .pointer (some ⟨b1, 0, none⟩)] w (Done w base gp dn fu fa (l.take i ++ l.drop (i + 1))) := by
 obtain ⟨hp, ho⟩ := hp
 obtain ⟨g, cur, rfl, _, hg, hh, h3, h4, h5, h6⟩ := lV ho (by omega)
 obtain ⟨m, hm⟩ : ∃ m, l.length = i + m + 1 := ⟨l.length - i - 1, by omega⟩
 have s1 : w.cell? ⟨b1, 0, none⟩ = some (.pointer (some ⟨gp, 0, none⟩)) := (aG hb1 0).trans rfl
 have s2 : w.cell? ⟨gp, 0, none⟩ = some (.slice (some ⟨g, 0, none⟩) l.length c) := (aG hp 0).trans rfl
 have ngp : gp ≠ g := fun e => fU hh hp (by decide) e.symm
 have ngb : b1 ≠ g := fun e => fU hh hb1 (by decide) e.symm
 obtain ⟨l3, hl3⟩ : ∃ l3, l3 = l.take i ++ l.drop (i + 1) := ⟨_, rfl⟩
 rw [← hl3]
 have HL3 := aA.mk hl3
 have HM := aA.mk hm
 have HO := aA.mk ho
 have HP := aA.mk hp
 have HH := aA.mk hh
 have HB1 := aA.mk hb1
 have NGP := aA.mk ngp
 have NGB := aA.mk ngb
 have HG := aA.mk hg
 have hi0 : (0 : Int) ≤ (i : Int) := by omega
 have hi1 : (i : Int) ≤ 64 := by omega
 clear hl3 hm ho hp hh hb1 ngp ngb h3 h4 h5 h6 hg hlt
 go_enter Tryz.func161, Tryz.ntmps161
 go_wp2
 refine gK (n := 14) (S := fun w' => w'.cell? ⟨b1, 0, none⟩ = some (.pointer (some ⟨gp, 0, none⟩)) ∧ w'.cell? ⟨gp, 0, none⟩ = some (.slice (some ⟨g, 0, none⟩) l.length c)) (ds := [13]) #[false, false, false, false, false, false, false, false, false, false, false, false, false, false] (by kernel_rfl) rfl rfl ⟨s1, s2⟩ (fun hHeld => ?_)
 refine aQ (i := 6) (N := some 9) (v := ?_) (a' := ?_) #[false, false, false, false, false, false, true, false, false, false, false, false, false, false] rfl rfl (by kernel_rfl) (fun _ _ _ h => h) (Or.inl ⟨by rfl, ?_⟩) ?_ ?_
 rotate_left
 ·intro w'
  go_simp
  with_reducible rfl
 rotate_left
 ·simp only [Act.put, zA, zZ, zS, aI, aJ]
  rfl
 refine aQ (i := 7) (N := some 10) (v := ?_) (a' := ?_) #[false, false, false, false, false, false, true, true, false, false, false, false, false, false] rfl rfl (by kernel_rfl) (fun _ _ _ h => h) (Or.inl ⟨by rfl, ?_⟩) ?_ ?_
 rotate_left
 ·intro w'
  go_simp
  with_reducible rfl
 rotate_left
 ·simp only [Act.put, zA, zZ, zS, aI, aJ]
  rfl
 refine aQ (i := 8) (N := some 11) (v := ?_) (a' := ?_) #[false, false, false, false, false, false, true, true, true, false, false, false, false, false] rfl rfl (by kernel_rfl) (fun _ _ _ h => h) (Or.inl ⟨by rfl, ?_⟩) ?_ ?_
 rotate_left
 ·intro w'
  go_simp
  with_reducible rfl
 rotate_left
 ·simp only [Act.put, zA, zZ, zS, aI, aJ]
  rfl
 refine dD (i := 0) (N := some 3) (v := ?_) (a' := ?_) #[true, false, false, false, false, false, true, true, true, false, false, false, false, false] rfl rfl (by kernel_rfl) (fun _ _ _ h => h) (Or.inl ⟨by rfl, ?_⟩) hHeld ?_ ?_
 rotate_left
 ·rintro w' ⟨s0, s1⟩
  go_simp
  with_reducible rfl
 rotate_left
 ·simp only [Act.put, zA, zZ, zS, aI, aJ]
  rfl
 refine dD (i := 1) (N := some 4) (v := ?_) (a' := ?_) #[true, true, false, false, false, false, true, true, true, false, false, false, false, false] rfl rfl (by kernel_rfl) (fun _ _ _ h => h) (Or.inl ⟨by rfl, ?_⟩) hHeld ?_ ?_
 rotate_left
 ·rintro w' ⟨s0, s1⟩
  go_simp
  with_reducible rfl
 rotate_left
 ·simp only [Act.put, zA, zZ, zS, aI, aJ]
  rfl
 refine aQ (i := 2) (N := some 5) (v := ?_) (a' := ?_) #[true, true, true, false, false, false, true, true, true, false, false, false, false, false] rfl rfl (by kernel_rfl) (fun _ _ _ h => h) (Or.inl ⟨by rfl, ?_⟩) ?_ ?_
 rotate_left
 ·intro w'
  go_simp
  with_reducible rfl
 rotate_left
 ·simp only [Act.put, zA, zZ, zS, aI, aJ]
  rfl
 refine aQ (i := 3) (N := some 6) (v := ?_) (a' := ?_) #[true, true, true, true, false, false, true, true, true, false, false, false, false, false] rfl rfl (by kernel_rfl) (fun _ _ _ h => h) (Or.inl ⟨by rfl, ?_⟩) ?_ ?_
 rotate_left
 ·intro w'
  go_simp
  with_reducible rfl
 rotate_left
 ·simp only [Act.put, zA, zZ, zS, aI, aJ]
  rfl
 refine aQ (i := 4) (N := some 7) (v := ?_) (a' := ?_) #[true, true, true, true, true, false, true, true, true, false, false, false, false, false] rfl rfl (by kernel_rfl) (fun _ _ _ h => h) (Or.inl ⟨by rfl, ?_⟩) ?_ ?_
 rotate_left
 ·intro w'
  go_simp
  with_reducible rfl
 rotate_left
 ·simp only [Act.put, zA, zZ, zS, aI, aJ]
  rfl
 refine dD (i := 5) (N := some 8) (v := ?_) (a' := ?_) #[true, true, true, true, true, true, true, true, true, false, false, false, false, false] rfl rfl (by kernel_rfl) (fun _ _ _ h => h) (Or.inl ⟨by rfl, ?_⟩) hHeld ?_ ?_
 rotate_left
 ·rintro w' ⟨s0, s1⟩
  go_simp
  with_reducible rfl
 rotate_left
 ·simp only [Act.put, zA, zZ, zS, aI, aJ]
  rfl
 refine lX (i := 9) (N := some 12) #[true, true, true, true, true, true, true, true, true, true, false, false, false, false] rfl rfl (by kernel_rfl) (by decide) (fun K hK => ?_)
 refine qM Tryz.func162 (by kernel_rfl) rfl #[.slice (some ⟨g, 0, none⟩) l.length c, .int .i64 (i : Int), .int .i64 (wrap64 ((i : Int) + 1))] (by rfl) rfl rfl (by simp only [List.map_toArray, List.map_cons, List.map_nil]; rfl) ?_
 refine (fD (args' := #[.slice (some ⟨g, 0, none⟩) (i + m + 1) c, .int .i64 (i : Int), .int .i64 ((i : Int) + 1)]) (by rw [HM.out, show wrap64 ((i : Int) + 1) = (i : Int) + 1 by unfold wrap64; omega]) (CU w.drew base l g c i m HM.out hn (Kd.qfL HO.out))).mono ?_
 rintro e w4 ⟨rfl, hR, hB, hk⟩
 rw [← HL3.out] at hR
 have HR4 := aA.mk hR
 have HB4 := aA.mk hB
 have hp4 := (hk gp NGP.out).trans HP.out
 have HK4 := aA.mk hk
 have hfr := aC hp4 0
 have HP4 := aA.mk hp4
 have qjs := aA.mk ((hk b1 NGB.out).trans HB1.out)
 clear hR hB hk hp4
 refine ⟨_, rfl, ?_⟩
 refine hK.out _ _ ⟨((aG qjs.out 0).trans rfl), ((aG HP4.out 0).trans rfl)⟩ (fun hHeld => ?_)
 clear hK K
 refine fO (a' := ?_) ?_ ?_
 rotate_left
 ·show Act.put _ (some 12) _ = _
  simp only [Act.put, zA, zZ, zS, aI, aJ]
  rfl
 refine aQ (i := 10) (N := some 13) (v := ?_) (a' := ?_) #[true, true, true, true, true, true, true, true, true, true, true, false, false, false] rfl rfl (by kernel_rfl) (fun _ _ _ h => h) (Or.inl ⟨by rfl, ?_⟩) ?_ ?_
 rotate_left
 ·intro w'
  go_simp
  with_reducible rfl
 rotate_left
 ·simp only [Act.put, zA, zZ, zS, aI, aJ]
  rfl
 refine aQ (i := 11) (N := some 14) (v := ?_) (a' := ?_) #[true, true, true, true, true, true, true, true, true, true, true, true, false, false] rfl rfl (by kernel_rfl) (fun _ _ _ h => h) (Or.inl ⟨by rfl, ?_⟩) ?_ ?_
 rotate_left
 ·intro w'
  go_simp
  with_reducible rfl
 rotate_left
 ·simp only [Act.put, zA, zZ, zS, aI, aJ]
  rfl
 refine aQ (i := 12) (N := some 15) (v := ?_) (a' := ?_) #[true, true, true, true, true, true, true, true, true, true, true, true, true, false] rfl rfl (by kernel_rfl) (fun _ _ _ h => h) (Or.inl ⟨by rfl, ?_⟩) ?_ ?_
 rotate_left
 ·intro w'
  go_simp
  with_reducible rfl
 rotate_left
 ·simp only [Act.put, zA, zZ, zS, aI, aJ]
  rfl
 refine o7 (i := 13) (N := none) #[true, true, true, true, true, true, true, true, true, true, true, true, true, true] rfl rfl (by kernel_rfl) (by decide) (fun K hK => ?_)
 refine wU (w1 := ?_) (by rfl) rfl ?_ ?_
 rotate_left
 ·go_simp
  rfl
 refine hK.out _ _ ?_
 clear hK K
 refine jR (by kernel_rfl) ?_
 go_end0
 have hlen : l3.length = i + m := by rw [HL3.out, List.length_append, List.length_take, List.length_drop, HM.out]; omega
 refine ⟨rfl, .slice (some ⟨g, 0, none⟩) (i + m) c, fQ (cs := #[.slice (some ⟨g, 0, none⟩) l.length c, .bool dn, .int .i64 fu, .int .i64 fa]) HP4.out 0 _ rfl, R1 (j := 0) HR4.out HP4.out (by decide) _, (WG HB4.out).setCell qdi _, fun k cs h => ?_⟩
 have hk := fU h HH.out (by decide)
 exact dB (p := ⟨gp, 0, none⟩) ((HK4.out k hk).trans h) (fU h HP.out (by decide)) _
set_option maxHeartbeats 4000000 in
set_option maxRecDepth 100000 in
theorem qb5 (W : World) (l : List S67) (dn : Bool) (fu fa : Int) (sd : Int → List S67) (hsd : ∀ (i : Nat), i < l.length → sd (i : Int) = l.take i ++ l.drop (i + 1)) :
  OfV W 118 #[] l dn fu fa false (fun _ b => if b = true then 0 else 7) sd := by
 intro w1 gp v hb hgp hp ho hok
 obtain ⟨A, c, rfl⟩ := Kd.dU ho
 have hlt : gp < w1.heap.size := fZ hp
 have hle : l.length ≤ 64 := by
  simp only [bI, Bool.and_eq_true, decide_eq_true_eq] at hok
  exact hok.2
 go_enter Tryz.func118, Tryz.ntmps118
 go_wp2
 refine bodyPost_ret (results_cell_row rfl _ _ (w1.heap.size + 1) 179 #[.func (.func 160) #[] #[], .func (.func 161) #[] #[.pointer (some ⟨w1.heap.size, 0, none⟩)], .bool false] (0, 0) _ rfl (new2 w1 _ _) Tryz.underlying179 rfl (by kernel_rfl)) rfl ?_
 refine ⟨_, _, rfl, aT (aT (Below.refl _ _) _) _, ⟨160, #[], rfl, V8, fun w3 i b _ _ _ => fD (by simp) ((o8 i b w3).mono ?_)⟩, 161, _, rfl, qdq, fun w3 i b dn fu fa hk hil hib hrf hp3 ho3 => ?_⟩
 ·rintro e w4 ⟨rfl, rfl⟩
  exact ⟨rfl, Below.refl _ _⟩
 ·have hbt : b = true := by
   cases b
   ·simp at hrf
   ·rfl
  refine fD (by simp) ((qb4 gp w1.heap.size w3 W.heap.size l A c dn fu fa i (hib hbt) hle (hk _ _ _ (by decide) (by decide) (fun h => by injection h with h; omega) (new1 w1 _ _)) ⟨hp3, ho3⟩ hgp).mono fun e w4 h => ?_)
  rw [hsd i (hib hbt)]
  exact h
def qP.f (aZ : List (S67)) (bW : Bool) (bY : Int) (bZ : Int) (a1 : ByteArray) : Option ((List (S67)) × Bool × Int × Int × Int) := some (cZ aZ bW bY bZ a1 false (rfC a1 aZ.length) (fun i => aZ.take i.toNat ++ [(⟨a1, ⟨#[]⟩, 0⟩ : S67)] ++ aZ.drop i.toNat))
set_option maxHeartbeats 4000000 in
set_option maxRecDepth 100000 in
theorem qP.calls (dR : Option Addr) (dS : Nat) (aZ : List (S67)) (bW : Bool) (bY : Int) (bZ : Int) (a1 : ByteArray) (r1 : List (S67)) (r2 : Bool) (r3 : Int) (r4 : Int) (r5 : Int) (w : World) (jS : Kd.C k67 w dR aZ.length aZ) (lJ : aZ.length ≤ dS) (h : qP.f aZ bW bY bZ a1 = some (r1, r2, r3, r4, r5)) :
  Calls Tryz.prog 80 #[.agg #[.slice dR aZ.length dS, .bool bW, .int .i64 bY, .int .i64 bZ], .string a1] w fun e w' => ∃ v0_ : Value, e = .returned (.tuple #[.agg #[v0_, .bool r2, .int .i64 r3, .int .i64 r4], .int .i64 r5]) ∧ Kd.R k67 67 w' w.heap.size (fun _ => True) v0_ r1 ∧ Below w.heap.size w w' := by
 unfold qP.f at h
 have HE := aA.mk (Option.some.inj h)
 clear h
 have HR := aA.mk jS
 have HC := aA.mk lJ
 clear jS lJ
 have HB := aA.mk (Below.refl w.heap.size w)
 go_enter Tryz.func80, Tryz.ntmps80
 go_wp2_with (first
 |((with_reducible refine aN (N := 2) rfl ?_);
   refine dH ?hg (N := 2) ?hd (cs := #[.slice dR aZ.length dS, .bool bW, .int .i64 bY, .int .i64 bZ]) (t := 27) ?hr ?_;
   (case hd => rfl); (case hg => rfl); (case hr => first | (go_simp; done) | (go_simp; rfl));
   intro gd hg w1 hbox hb;
   have n0_ := aA.mk (bC HB.out hb);
   clear HB; have HB := n0_; have BKD := aA.mk hbox; clear n0_ hg hbox hb)
 |((with_reducible refine aN (N := 3) rfl ?_);
   refine dH ?hg (N := 3) ?hd (cs := #[.string a1]) (t := 9) ?hr ?_;
   (case hd => rfl); (case hg => rfl); (case hr => first | (go_simp; done) | (go_simp; rfl));
   intro gn hg w2 hbox hb;
   have n0_ := aA.mk (bC HB.out hb); have n1_ := aA.mk (bG BKD.out hb);
   clear HB BKD; have HB := n0_; have BKD := n1_; have BKN := aA.mk hbox; clear n0_ n1_ hg hbox hb)
 |((with_reducible refine aN (N := 4) rfl ?_);
   refine dH ?hg (N := 4) ?hd (cs := #[.slice none 0 0, .bool false, .int .i64 0, .int .i64 0]) (t := 27) ?hr ?_;
   (case hd => rfl); (case hg => rfl); (case hr => first | (go_simp; done) | (go_simp; rfl));
   intro gr hg w3 hbox hb;
   have n0_ := aA.mk (bC HB.out hb); have n1_ := aA.mk (bG BKD.out hb); have n2_ := aA.mk (bG BKN.out hb);
   have GR := aA.mk (show w.heap.size ≤ gr by rw [hg]; exact HB.out.size);
   clear HB BKD BKN; have HB := n0_; have BKD := n1_; have BKN := n2_; have BKR := aA.mk hbox; clear n0_ n1_ n2_ hg hbox hb;
   have d0 : w3.cell? ⟨gd, 0, none⟩ = some (.slice dR aZ.length dS) := (aG BKD.out 0).trans rfl;
   have d1 : w3.cell? ⟨gd, 1, none⟩ = some (.bool bW) := (aG BKD.out 1).trans rfl;
   have d2 : w3.cell? ⟨gd, 2, none⟩ = some (.int .i64 bY) := (aG BKD.out 2).trans rfl;
   have d3 : w3.cell? ⟨gd, 3, none⟩ = some (.int .i64 bZ) := (aG BKD.out 3).trans rfl; have dn : w3.cell? ⟨gn, 0, none⟩ = some (.string a1) := (aG BKN.out 0).trans rfl)
 |fail)
 refine ((qN 124 _ (fun args w => jW Tryz.func124 (by kernel_rfl) (by kernel_rfl) args w) dR dS aZ bW bY bZ a1 w3 (Kd.fC HR.out HB.out) HC.out false (rfC a1 aZ.length) (fun i => aZ.take i.toNat ++ [(⟨a1, ⟨#[]⟩, 0⟩ : S67)] ++ aZ.drop i.toNat) ?hof).mono ?_)
 case hof => exact qbY w3 gn aZ bW bY bZ a1 _ (fun i hi => by simp) BKN.out
 rw [HE.out]
 rintro e w4 ⟨v, rfl, ho, hb⟩
 have HO := aA.mk (Kd.rO ho HB.out.size)
 obtain ⟨A4, c4, e4⟩ := Kd.dU ho
 subst e4
 have n0_ := aA.mk (bC HB.out hb)
 have bk := bG BKR.out hb
 have c0 := (aG bk 0).trans rfl
 have c1 := (aG bk 1).trans rfl
 have c2 := (aG bk 2).trans rfl
 have c3 := (aG bk 3).trans rfl
 have f0 := aC bk 0
 have f1 := aC bk 1
 have f2 := aC bk 2
 have f3 := aC bk 3
 have BK4 := aA.mk bk
 clear ho hb bk HB BKD BKR d0 d1 d2 d3 BKN dn
 go_wp2
 refine bodyPost_ret (fF rfl _ _ gr 27 #[.slice A4 r1.length c4, .bool r2, .int .i64 r3, .int .i64 r4] (0, 0) _ rfl (uV BK4.out _ _ _ _) Tryz.underlying27 rfl (by kernel_rfl)) rfl ?_
 exact ⟨_, rfl, R4 HO.out BK4.out (by decide) _ _ _ _, kL n0_.out GR.out _ _ _ _⟩
def qQ.f (aZ : List (S67)) (bW : Bool) (bY : Int) (bZ : Int) (a1 : ByteArray) (a2 : ByteArray) : Option ((List (S67)) × Bool × Int × Int × Int) := some (cZ aZ bW bY bZ a1 true (rfW a2 aZ) (fun i => aZ.set i.toNat ⟨(dY aZ i).f0, (dY aZ i).f1 ++ a2, (dY aZ i).f2⟩))
set_option maxHeartbeats 4000000 in
set_option maxRecDepth 100000 in
theorem qQ.calls (dR : Option Addr) (dS : Nat) (aZ : List (S67)) (bW : Bool) (bY : Int) (bZ : Int) (a1 : ByteArray) (a2 : ByteArray) (r1 : List (S67)) (r2 : Bool) (r3 : Int) (r4 : Int) (r5 : Int) (w : World) (jS : Kd.C k67 w dR aZ.length aZ) (lJ : aZ.length ≤ dS) (h : qQ.f aZ bW bY bZ a1 a2 = some (r1, r2, r3, r4, r5)) :
  Calls Tryz.prog 82 #[.agg #[.slice dR aZ.length dS, .bool bW, .int .i64 bY, .int .i64 bZ], .string a1, .string a2] w fun e w' => ∃ v0_ : Value, e = .returned (.tuple #[.agg #[v0_, .bool r2, .int .i64 r3, .int .i64 r4], .int .i64 r5]) ∧ Kd.R k67 67 w' w.heap.size (fun _ => True) v0_ r1 ∧ Below w.heap.size w w' := by
 unfold qQ.f at h
 have HE := aA.mk (Option.some.inj h)
 clear h
 have HR := aA.mk jS
 have HC := aA.mk lJ
 clear jS lJ
 have HB := aA.mk (Below.refl w.heap.size w)
 go_enter Tryz.func82, Tryz.ntmps82
 go_wp2_with (first
 |((with_reducible refine aN (N := 3) rfl ?_);
   refine dH ?hg (N := 3) ?hd (cs := #[.slice dR aZ.length dS, .bool bW, .int .i64 bY, .int .i64 bZ]) (t := 27) ?hr ?_;
   (case hd => rfl); (case hg => rfl); (case hr => first | (go_simp; done) | (go_simp; rfl));
   intro gd hg w1 hbox hb;
   have n0_ := aA.mk (bC HB.out hb);
   clear HB; have HB := n0_; have BKD := aA.mk hbox; clear n0_ hg hbox hb)
 |((with_reducible refine aN (N := 5) rfl ?_);
   refine dH ?hg (N := 5) ?hd (cs := #[.string a2]) (t := 9) ?hr ?_;
   (case hd => rfl); (case hg => rfl); (case hr => first | (go_simp; done) | (go_simp; rfl));
   intro gn hg w2 hbox hb;
   have n0_ := aA.mk (bC HB.out hb); have n1_ := aA.mk (bG BKD.out hb);
   clear HB BKD; have HB := n0_; have BKD := n1_; have BKN := aA.mk hbox; clear n0_ n1_ hg hbox hb)
 |((with_reducible refine aN (N := 6) rfl ?_);
   refine dH ?hg (N := 6) ?hd (cs := #[.slice none 0 0, .bool false, .int .i64 0, .int .i64 0]) (t := 27) ?hr ?_;
   (case hd => rfl); (case hg => rfl); (case hr => first | (go_simp; done) | (go_simp; rfl));
   intro gr hg w3 hbox hb;
   have n0_ := aA.mk (bC HB.out hb); have n1_ := aA.mk (bG BKD.out hb); have n2_ := aA.mk (bG BKN.out hb);
   have GR := aA.mk (show w.heap.size ≤ gr by rw [hg]; exact HB.out.size);
   clear HB BKD BKN; have HB := n0_; have BKD := n1_; have BKN := n2_; have BKR := aA.mk hbox; clear n0_ n1_ n2_ hg hbox hb;
   have d0 : w3.cell? ⟨gd, 0, none⟩ = some (.slice dR aZ.length dS) := (aG BKD.out 0).trans rfl;
   have d1 : w3.cell? ⟨gd, 1, none⟩ = some (.bool bW) := (aG BKD.out 1).trans rfl;
   have d2 : w3.cell? ⟨gd, 2, none⟩ = some (.int .i64 bY) := (aG BKD.out 2).trans rfl;
   have d3 : w3.cell? ⟨gd, 3, none⟩ = some (.int .i64 bZ) := (aG BKD.out 3).trans rfl; have dn : w3.cell? ⟨gn, 0, none⟩ = some (.string a2) := (aG BKN.out 0).trans rfl)
 |fail)
 refine ((qN 128 _ (fun args w => jW Tryz.func128 (by kernel_rfl) (by kernel_rfl) args w) dR dS aZ bW bY bZ a1 w3 (Kd.fC HR.out HB.out) HC.out true (rfW a2 aZ) (fun i => aZ.set i.toNat ⟨(dY aZ i).f0, (dY aZ i).f1 ++ a2, (dY aZ i).f2⟩) ?hof).mono ?_)
 case hof => exact qdn w3 gn aZ bW bY bZ a2 _ (fun i x hx hs => by simp only [Int.toNat_natCast]; rw [iC hx]) BKN.out
 rw [HE.out]
 rintro e w4 ⟨v, rfl, ho, hb⟩
 have HO := aA.mk (Kd.rO ho HB.out.size)
 obtain ⟨A4, c4, e4⟩ := Kd.dU ho
 subst e4
 have n0_ := aA.mk (bC HB.out hb)
 have bk := bG BKR.out hb
 have c0 := (aG bk 0).trans rfl
 have c1 := (aG bk 1).trans rfl
 have c2 := (aG bk 2).trans rfl
 have c3 := (aG bk 3).trans rfl
 have f0 := aC bk 0
 have f1 := aC bk 1
 have f2 := aC bk 2
 have f3 := aC bk 3
 have BK4 := aA.mk bk
 clear ho hb bk HB BKD BKR d0 d1 d2 d3 BKN dn
 go_wp2
 refine bodyPost_ret (fF rfl _ _ gr 27 #[.slice A4 r1.length c4, .bool r2, .int .i64 r3, .int .i64 r4] (0, 0) _ rfl (uV BK4.out _ _ _ _) Tryz.underlying27 rfl (by kernel_rfl)) rfl ?_
 exact ⟨_, rfl, R4 HO.out BK4.out (by decide) _ _ _ _, kL n0_.out GR.out _ _ _ _⟩
def wZ.f (aZ : List (S67)) (bW : Bool) (bY : Int) (bZ : Int) (a1 : ByteArray) (a2 : Int) : Option ((List (S67)) × Bool × Int × Int × Int) := some (cZ aZ bW bY bZ a1 false (rfT a2 aZ) (fun i => aZ.set i.toNat ⟨(dY aZ i).f0, (dY aZ i).f1.extract 0 a2.toNat, a2⟩))
set_option maxHeartbeats 4000000 in
set_option maxRecDepth 100000 in
theorem wZ.calls (dR : Option Addr) (dS : Nat) (aZ : List (S67)) (bW : Bool) (bY : Int) (bZ : Int) (a1 : ByteArray) (a2 : Int) (r1 : List (S67)) (r2 : Bool) (r3 : Int) (r4 : Int) (r5 : Int) (w : World) (jS : Kd.C k67 w dR aZ.length aZ) (lJ : aZ.length ≤ dS) (h : wZ.f aZ bW bY bZ a1 a2 = some (r1, r2, r3, r4, r5)) :
  Calls Tryz.prog 74 #[.agg #[.slice dR aZ.length dS, .bool bW, .int .i64 bY, .int .i64 bZ], .string a1, .int .i64 a2] w fun e w' => ∃ v0_ : Value, e = .returned (.tuple #[.agg #[v0_, .bool r2, .int .i64 r3, .int .i64 r4], .int .i64 r5]) ∧ Kd.R k67 67 w' w.heap.size (fun _ => True) v0_ r1 ∧ Below w.heap.size w w' := by
 unfold wZ.f at h
 have HE := aA.mk (Option.some.inj h)
 clear h
 have HR := aA.mk jS
 have HC := aA.mk lJ
 clear jS lJ
 have HB := aA.mk (Below.refl w.heap.size w)
 go_enter Tryz.func74, Tryz.ntmps74
 go_wp2_with (first
 |((with_reducible refine aN (N := 3) rfl ?_);
   refine dH ?hg (N := 3) ?hd (cs := #[.slice dR aZ.length dS, .bool bW, .int .i64 bY, .int .i64 bZ]) (t := 27) ?hr ?_;
   (case hd => rfl); (case hg => rfl); (case hr => first | (go_simp; done) | (go_simp; rfl));
   intro gd hg w1 hbox hb;
   have n0_ := aA.mk (bC HB.out hb);
   clear HB; have HB := n0_; have BKD := aA.mk hbox; clear n0_ hg hbox hb)
 |((with_reducible refine aN (N := 5) rfl ?_);
   refine dH ?hg (N := 5) ?hd (cs := #[.int .i64 a2]) (t := 3) ?hr ?_;
   (case hd => rfl); (case hg => rfl); (case hr => first | (go_simp; done) | (go_simp; rfl));
   intro gn hg w2 hbox hb;
   have n0_ := aA.mk (bC HB.out hb); have n1_ := aA.mk (bG BKD.out hb);
   clear HB BKD; have HB := n0_; have BKD := n1_; have BKN := aA.mk hbox; clear n0_ n1_ hg hbox hb)
 |((with_reducible refine aN (N := 6) rfl ?_);
   refine dH ?hg (N := 6) ?hd (cs := #[.slice none 0 0, .bool false, .int .i64 0, .int .i64 0]) (t := 27) ?hr ?_;
   (case hd => rfl); (case hg => rfl); (case hr => first | (go_simp; done) | (go_simp; rfl));
   intro gr hg w3 hbox hb;
   have n0_ := aA.mk (bC HB.out hb); have n1_ := aA.mk (bG BKD.out hb); have n2_ := aA.mk (bG BKN.out hb);
   have GR := aA.mk (show w.heap.size ≤ gr by rw [hg]; exact HB.out.size);
   clear HB BKD BKN; have HB := n0_; have BKD := n1_; have BKN := n2_; have BKR := aA.mk hbox; clear n0_ n1_ n2_ hg hbox hb;
   have d0 : w3.cell? ⟨gd, 0, none⟩ = some (.slice dR aZ.length dS) := (aG BKD.out 0).trans rfl;
   have d1 : w3.cell? ⟨gd, 1, none⟩ = some (.bool bW) := (aG BKD.out 1).trans rfl;
   have d2 : w3.cell? ⟨gd, 2, none⟩ = some (.int .i64 bY) := (aG BKD.out 2).trans rfl;
   have d3 : w3.cell? ⟨gd, 3, none⟩ = some (.int .i64 bZ) := (aG BKD.out 3).trans rfl; have dn : w3.cell? ⟨gn, 0, none⟩ = some (.int .i64 a2) := (aG BKN.out 0).trans rfl)
 |fail)
 refine ((qN 119 _ (fun args w => jW Tryz.func119 (by kernel_rfl) (by kernel_rfl) args w) dR dS aZ bW bY bZ a1 w3 (Kd.fC HR.out HB.out) HC.out false (rfT a2 aZ) (fun i => aZ.set i.toNat ⟨(dY aZ i).f0, (dY aZ i).f1.extract 0 a2.toNat, a2⟩) ?hof).mono ?_)
 case hof => exact qfU w3 gn aZ bW bY bZ a2 _ (fun i n x hx he hn => by subst he; simp only [Int.toNat_natCast]; rw [iC hx]) BKN.out
 rw [HE.out]
 rintro e w4 ⟨v, rfl, ho, hb⟩
 have HO := aA.mk (Kd.rO ho HB.out.size)
 obtain ⟨A4, c4, e4⟩ := Kd.dU ho
 subst e4
 have n0_ := aA.mk (bC HB.out hb)
 have bk := bG BKR.out hb
 have c0 := (aG bk 0).trans rfl
 have c1 := (aG bk 1).trans rfl
 have c2 := (aG bk 2).trans rfl
 have c3 := (aG bk 3).trans rfl
 have f0 := aC bk 0
 have f1 := aC bk 1
 have f2 := aC bk 2
 have f3 := aC bk 3
 have BK4 := aA.mk bk
 clear ho hb bk HB BKD BKR d0 d1 d2 d3 BKN dn
 go_wp2
 refine bodyPost_ret (fF rfl _ _ gr 27 #[.slice A4 r1.length c4, .bool r2, .int .i64 r3, .int .i64 r4] (0, 0) _ rfl (uV BK4.out _ _ _ _) Tryz.underlying27 rfl (by kernel_rfl)) rfl ?_
 exact ⟨_, rfl, R4 HO.out BK4.out (by decide) _ _ _ _, kL n0_.out GR.out _ _ _ _⟩
def uY.f (aZ : List (S67)) (bW : Bool) (bY : Int) (bZ : Int) (a1 : ByteArray) : Option ((List (S67)) × Bool × Int × Int × Int) := some (cZ aZ bW bY bZ a1 false (fun _ b => if b = true then 0 else 7) (fun i => aZ.set i.toNat ⟨(dY aZ i).f0, (dY aZ i).f1, ((dY aZ i).f1.size : Int)⟩))
set_option maxHeartbeats 4000000 in
set_option maxRecDepth 100000 in
theorem uY.calls (dR : Option Addr) (dS : Nat) (aZ : List (S67)) (bW : Bool) (bY : Int) (bZ : Int) (a1 : ByteArray) (r1 : List (S67)) (r2 : Bool) (r3 : Int) (r4 : Int) (r5 : Int) (w : World) (jS : Kd.C k67 w dR aZ.length aZ) (lJ : aZ.length ≤ dS) (h : uY.f aZ bW bY bZ a1 = some (r1, r2, r3, r4, r5)) :
  Calls Tryz.prog 83 #[.agg #[.slice dR aZ.length dS, .bool bW, .int .i64 bY, .int .i64 bZ], .string a1] w fun e w' => ∃ v0_ : Value, e = .returned (.tuple #[.agg #[v0_, .bool r2, .int .i64 r3, .int .i64 r4], .int .i64 r5]) ∧ Kd.R k67 67 w' w.heap.size (fun _ => True) v0_ r1 ∧ Below w.heap.size w w' := by
 unfold uY.f at h
 have HE := aA.mk (Option.some.inj h)
 clear h
 have HR := aA.mk jS
 have HC := aA.mk lJ
 clear jS lJ
 have HB := aA.mk (Below.refl w.heap.size w)
 go_enter Tryz.func83, Tryz.ntmps83
 go_wp2_with (first
 |((with_reducible refine aN (N := 2) rfl ?_);
   refine dH ?hg (N := 2) ?hd (cs := #[.slice dR aZ.length dS, .bool bW, .int .i64 bY, .int .i64 bZ]) (t := 27) ?hr ?_;
   (case hd => rfl); (case hg => rfl); (case hr => first | (go_simp; done) | (go_simp; rfl));
   intro gd hg w1 hbox hb;
   have n0_ := aA.mk (bC HB.out hb);
   clear HB; have HB := n0_; have BKD := aA.mk hbox; clear n0_ hg hbox hb)
 |((with_reducible refine aN (N := 4) rfl ?_);
   refine dH ?hg (N := 4) ?hd (cs := #[.slice none 0 0, .bool false, .int .i64 0, .int .i64 0]) (t := 27) ?hr ?_;
   (case hd => rfl); (case hg => rfl); (case hr => first | (go_simp; done) | (go_simp; rfl));
   intro gr hg w3 hbox hb;
   have n0_ := aA.mk (bC HB.out hb); have n1_ := aA.mk (bG BKD.out hb);
   have GR := aA.mk (show w.heap.size ≤ gr by rw [hg]; exact HB.out.size);
   clear HB BKD; have HB := n0_; have BKD := n1_; have BKR := aA.mk hbox; clear n0_ n1_ hg hbox hb;
   have d0 : w3.cell? ⟨gd, 0, none⟩ = some (.slice dR aZ.length dS) := (aG BKD.out 0).trans rfl;
   have d1 : w3.cell? ⟨gd, 1, none⟩ = some (.bool bW) := (aG BKD.out 1).trans rfl;
   have d2 : w3.cell? ⟨gd, 2, none⟩ = some (.int .i64 bY) := (aG BKD.out 2).trans rfl;
   have d3 : w3.cell? ⟨gd, 3, none⟩ = some (.int .i64 bZ) := (aG BKD.out 3).trans rfl)
 |fail)
 refine ((qN 130 _ (fun args w => jW Tryz.func130 (by kernel_rfl) (by kernel_rfl) args w) dR dS aZ bW bY bZ a1 w3 (Kd.fC HR.out HB.out) HC.out false (fun _ b => if b = true then 0 else 7) (fun i => aZ.set i.toNat ⟨(dY aZ i).f0, (dY aZ i).f1, ((dY aZ i).f1.size : Int)⟩) ?hof).mono ?_)
 case hof => exact qet w3 aZ bW bY bZ _ (fun i x hx => by simp only [Int.toNat_natCast]; rw [iC hx])
 rw [HE.out]
 rintro e w4 ⟨v, rfl, ho, hb⟩
 have HO := aA.mk (Kd.rO ho HB.out.size)
 obtain ⟨A4, c4, e4⟩ := Kd.dU ho
 subst e4
 have n0_ := aA.mk (bC HB.out hb)
 have bk := bG BKR.out hb
 have c0 := (aG bk 0).trans rfl
 have c1 := (aG bk 1).trans rfl
 have c2 := (aG bk 2).trans rfl
 have c3 := (aG bk 3).trans rfl
 have f0 := aC bk 0
 have f1 := aC bk 1
 have f2 := aC bk 2
 have f3 := aC bk 3
 have BK4 := aA.mk bk
 clear ho hb bk HB BKD BKR d0 d1 d2 d3
 go_wp2
 refine bodyPost_ret (fF rfl _ _ gr 27 #[.slice A4 r1.length c4, .bool r2, .int .i64 r3, .int .i64 r4] (0, 0) _ rfl (uV BK4.out _ _ _ _) Tryz.underlying27 rfl (by kernel_rfl)) rfl ?_
 exact ⟨_, rfl, R4 HO.out BK4.out (by decide) _ _ _ _, kL n0_.out GR.out _ _ _ _⟩
def o9.f (aZ : List (S67)) (bW : Bool) (bY : Int) (bZ : Int) (a1 : ByteArray) : Option ((List (S67)) × Bool × Int × Int × Int) := some (cZ aZ bW bY bZ a1 false (fun _ b => if b = true then 0 else 7) (fun i => aZ.take i.toNat ++ aZ.drop (i.toNat + 1)))
set_option maxHeartbeats 4000000 in
set_option maxRecDepth 100000 in
theorem o9.calls (dR : Option Addr) (dS : Nat) (aZ : List (S67)) (bW : Bool) (bY : Int) (bZ : Int) (a1 : ByteArray) (r1 : List (S67)) (r2 : Bool) (r3 : Int) (r4 : Int) (r5 : Int) (w : World) (jS : Kd.C k67 w dR aZ.length aZ) (lJ : aZ.length ≤ dS) (h : o9.f aZ bW bY bZ a1 = some (r1, r2, r3, r4, r5)) :
  Calls Tryz.prog 73 #[.agg #[.slice dR aZ.length dS, .bool bW, .int .i64 bY, .int .i64 bZ], .string a1] w fun e w' => ∃ v0_ : Value, e = .returned (.tuple #[.agg #[v0_, .bool r2, .int .i64 r3, .int .i64 r4], .int .i64 r5]) ∧ Kd.R k67 67 w' w.heap.size (fun _ => True) v0_ r1 ∧ Below w.heap.size w w' := by
 unfold o9.f at h
 have HE := aA.mk (Option.some.inj h)
 clear h
 have HR := aA.mk jS
 have HC := aA.mk lJ
 clear jS lJ
 have HB := aA.mk (Below.refl w.heap.size w)
 go_enter Tryz.func73, Tryz.ntmps73
 go_wp2_with (first
 |((with_reducible refine aN (N := 2) rfl ?_);
   refine dH ?hg (N := 2) ?hd (cs := #[.slice dR aZ.length dS, .bool bW, .int .i64 bY, .int .i64 bZ]) (t := 27) ?hr ?_;
   (case hd => rfl); (case hg => rfl); (case hr => first | (go_simp; done) | (go_simp; rfl));
   intro gd hg w1 hbox hb;
   have n0_ := aA.mk (bC HB.out hb);
   clear HB; have HB := n0_; have BKD := aA.mk hbox; clear n0_ hg hbox hb)
 |((with_reducible refine aN (N := 4) rfl ?_);
   refine dH ?hg (N := 4) ?hd (cs := #[.slice none 0 0, .bool false, .int .i64 0, .int .i64 0]) (t := 27) ?hr ?_;
   (case hd => rfl); (case hg => rfl); (case hr => first | (go_simp; done) | (go_simp; rfl));
   intro gr hg w3 hbox hb;
   have n0_ := aA.mk (bC HB.out hb); have n1_ := aA.mk (bG BKD.out hb);
   have GR := aA.mk (show w.heap.size ≤ gr by rw [hg]; exact HB.out.size);
   clear HB BKD; have HB := n0_; have BKD := n1_; have BKR := aA.mk hbox; clear n0_ n1_ hg hbox hb;
   have d0 : w3.cell? ⟨gd, 0, none⟩ = some (.slice dR aZ.length dS) := (aG BKD.out 0).trans rfl;
   have d1 : w3.cell? ⟨gd, 1, none⟩ = some (.bool bW) := (aG BKD.out 1).trans rfl;
   have d2 : w3.cell? ⟨gd, 2, none⟩ = some (.int .i64 bY) := (aG BKD.out 2).trans rfl;
   have d3 : w3.cell? ⟨gd, 3, none⟩ = some (.int .i64 bZ) := (aG BKD.out 3).trans rfl)
 |fail)
 refine ((qN 118 _ (fun args w => jW Tryz.func118 (by kernel_rfl) (by kernel_rfl) args w) dR dS aZ bW bY bZ a1 w3 (Kd.fC HR.out HB.out) HC.out false (fun _ b => if b = true then 0 else 7) (fun i => aZ.take i.toNat ++ aZ.drop (i.toNat + 1)) ?hof).mono ?_)
 case hof => exact qb5 w3 aZ bW bY bZ _ (fun i hi => by simp)
 rw [HE.out]
 rintro e w4 ⟨v, rfl, ho, hb⟩
 have HO := aA.mk (Kd.rO ho HB.out.size)
 obtain ⟨A4, c4, e4⟩ := Kd.dU ho
 subst e4
 have n0_ := aA.mk (bC HB.out hb)
 have bk := bG BKR.out hb
 have c0 := (aG bk 0).trans rfl
 have c1 := (aG bk 1).trans rfl
 have c2 := (aG bk 2).trans rfl
 have c3 := (aG bk 3).trans rfl
 have f0 := aC bk 0
 have f1 := aC bk 1
 have f2 := aC bk 2
 have f3 := aC bk 3
 have BK4 := aA.mk bk
 clear ho hb bk HB BKD BKR d0 d1 d2 d3
 go_wp2
 refine bodyPost_ret (fF rfl _ _ gr 27 #[.slice A4 r1.length c4, .bool r2, .int .i64 r3, .int .i64 r4] (0, 0) _ rfl (uV BK4.out _ _ _ _) Tryz.underlying27 rfl (by kernel_rfl)) rfl ?_
 exact ⟨_, rfl, R4 HO.out BK4.out (by decide) _ _ _ _, kL n0_.out GR.out _ _ _ _⟩
theorem qeu (k k' : IntKind) (x y : Int) : Builtin.max2 (.int k x) (.int k' y) = pure (.int k (mx x y)) := iJ k k' x y
theorem qev (k k' : IntKind) (x y : Int) : Builtin.min2 (.int k x) (.int k' y) = pure (.int k (mn x y)) := iK k k' x y
theorem qgJ {l : List Int} {k : Nat} (h : k < l.length) : l[k]? = some (rd l (k : Int)) := by
 simp [rd, List.getElem?_eq_getElem h]
attribute [local go_sem] qeu qev jP jQ
def CW (x : S67) : Option Int → Int
 | none => x.f2
 | some v => x.f2 + mn (mx v 0) ((x.f1.size : Int) - x.f2)
def TI (x : S67) (k : Option Int) : S67 := ⟨x.f0, x.f1.extract 0 (CW x k).toNat, CW x k⟩
def gW (l : List S67) (ks : List Int) : List S67 := l.mapIdx fun i x => TI x ks[i]?
theorem kG (l : List S67) (ks : List Int) : (gW l ks).length = l.length := by simp [gW]
theorem YL {l : List S67} {ks : List Int} {i : Nat} {x : S67} (h : l[i]? = some x) : (gW l ks)[i]? = some (TI x ks[i]?) := by
 simp [gW, List.getElem?_mapIdx, h]
theorem TJ {x : S67} (h0 : 0 ≤ x.f2) (h1 : x.f2 ≤ (x.f1.size : Int)) (k : Option Int) : x.f2 ≤ CW x k ∧ CW x k ≤ (x.f1.size : Int) := by
 cases k with
 | none => exact ⟨Int.le_refl _, h1⟩
 | some v =>
  simp only [CW]
  unfold mn mx
  split <;> split <;> omega
def kM (l : List S67) (ks : List Int) (k : Nat) : List S67 := (gW l ks).take k ++ l.drop k
theorem iR (l : List S67) (ks : List Int) (k : Nat) (h : k ≤ l.length) : (kM l ks k).length = l.length := by
 simp [kM, kG]; omega
theorem qb6 {l : List S67} {ks : List Int} {k : Nat} {x : S67} (h : l[k]? = some x) : (kM l ks k)[k]? = some x := by
 have hlt : k < l.length := (List.getElem?_eq_some_iff.1 h).1
 rw [kM, List.getElem?_append_right (by simp [kG]; omega)]
 simp [kG]
 rw [show min k l.length = k by omega]
 simpa using h
theorem LP {l : List S67} {ks : List Int} {k : Nat} {x : S67} (h : l[k]? = some x) : (kM l ks k).set k (TI x ks[k]?) = kM l ks (k + 1) := by
 have hlt : k < l.length := (List.getElem?_eq_some_iff.1 h).1
 have hlen : ((gW l ks).take k).length = k := by simp [kG]; omega
 rw [kM, kM, List.set_append_right _ _ (by omega), hlen, Nat.sub_self]
 rw [List.drop_eq_getElem_cons hlt, zZ, List.take_succ_eq_append_getElem (by rw [kG]; exact hlt)]
 have h2 := YL (ks := ks) h
 rw [List.getElem?_eq_getElem (by rw [kG]; exact hlt)] at h2
 rw [Option.some.inj h2]
 simp
def oU.f (aZ : List (S67)) (bW : Bool) (bY : Int) (bZ : Int) (l1 : List Int) : Option ((List (S67)) × Bool × Int × Int × Int) := some (if bI aZ = true then (gW aZ l1, false, -1, -1, 0) else ([], false, 0, 0, 6))
set_option maxHeartbeats 8000000 in
set_option maxRecDepth 100000 in
theorem oU.calls (dR : Option Addr) (dS : Nat) (aZ : List (S67)) (bW : Bool) (bY : Int) (bZ : Int) (A1 : Option Addr) (c1 : Nat) (l1 : List Int) (r1 : List (S67)) (r2 : Bool) (r3 : Int) (r4 : Int) (r5 : Int) (w : World) (jS : Kd.C k67 w dR aZ.length aZ) (lJ : aZ.length ≤ dS) (hr1 : Kd.C (Kd.int .i64) w A1 l1.length l1) (hc1 : l1.length ≤ c1) (h : oU.f aZ bW bY bZ l1 = some (r1, r2, r3, r4, r5)) :
  Calls Tryz.prog 23 #[.agg #[.slice dR aZ.length dS, .bool bW, .int .i64 bY, .int .i64 bZ], .slice A1 l1.length c1] w fun e w' => ∃ v0_ : Value, e = .returned (.tuple #[.agg #[v0_, .bool r2, .int .i64 r3, .int .i64 r4], .int .i64 r5]) ∧ Kd.R k67 67 w' w.heap.size (fun _ => True) v0_ r1 ∧ Below w.heap.size w w' := by
 unfold oU.f at h
 have HE := aA.mk (Option.some.inj h)
 clear h
 have HR := aA.mk jS
 have HC := aA.mk lJ
 have HK1 := aA.mk hr1
 have hl1 : l1.length ≤ 9223372036854775807 := hr1.2.1
 clear jS lJ hr1 hc1
 have HB := aA.mk (Below.refl w.heap.size w)
 go_enter Tryz.func23, Tryz.ntmps23
 go_wp2_with (first
 |((with_reducible refine aN (N := 2) rfl ?_);
   refine dH ?hg (N := 2) ?hd (cs := #[.slice dR aZ.length dS, .bool bW, .int .i64 bY, .int .i64 bZ]) (t := 27) ?hr ?_;
   (case hd => rfl); (case hg => rfl); (case hr => first | (go_simp; done) | (go_simp; rfl));
   intro gd hg w1 hbox hb;
   have n0_ := aA.mk (bC HB.out hb);
   clear HB; have HB := n0_; have BKD := aA.mk hbox; clear n0_ hg hbox hb)
 |((with_reducible refine aN (N := 4) rfl ?_);
   refine dH ?hg (N := 4) ?hd (cs := #[.slice none 0 0, .bool false, .int .i64 0, .int .i64 0]) (t := 27) ?hr ?_;
   (case hd => rfl); (case hg => rfl); (case hr => first | (go_simp; done) | (go_simp; rfl));
   intro gr hg w3 hbox hb;
   have n0_ := aA.mk (bC HB.out hb); have n1_ := aA.mk (bG BKD.out hb);
   have GR := aA.mk (show w.heap.size ≤ gr by rw [hg]; exact HB.out.size);
   clear HB BKD; have HB := n0_; have BKD := n1_; have BKR := aA.mk hbox; clear n0_ n1_ hg hbox hb;
   have d0 : w3.cell? ⟨gd, 0, none⟩ = some (.slice dR aZ.length dS) := (aG BKD.out 0).trans rfl;
   have d1 : w3.cell? ⟨gd, 1, none⟩ = some (.bool bW) := (aG BKD.out 1).trans rfl;
   have d2 : w3.cell? ⟨gd, 2, none⟩ = some (.int .i64 bY) := (aG BKD.out 2).trans rfl;
   have d3 : w3.cell? ⟨gd, 3, none⟩ = some (.int .i64 bZ) := (aG BKD.out 3).trans rfl)
 |fail)
 by_cases hok : bI aZ = true
 ·have HE2 : aA ((gW aZ l1, false, (-1 : Int), (-1 : Int), (0 : Int)) = (r1, r2, r3, r4, r5)) := ⟨by have := HE.out; rwa [if_pos hok] at this⟩
  have hle : aZ.length ≤ 64 := by
   simp only [bI, Bool.and_eq_true, decide_eq_true_eq] at hok
   exact hok.2
  have HOK := aA.mk hok
  refine ((dN.calls dR dS aZ bW bY bZ 0 w3 (Kd.fC HR.out HB.out) HC.out (by rw [dN.f, if_pos hok])).mono ?_)
  clear hok HE
  rintro e w4 ⟨rfl, hb⟩
  have n0_ := aA.mk (bC HB.out hb); have n1_ := aA.mk (bG BKD.out hb); have n2_ := aA.mk (bG BKR.out hb)
  clear HB BKD BKR d0 d1 d2 d3 hb; have HB := n0_; have BKD := n1_; have BKR := n2_; clear n0_ n1_ n2_
  have d0 : w4.cell? ⟨gd, 0, none⟩ = some (.slice dR aZ.length dS) := (aG BKD.out 0).trans rfl
  go_wp2_with fail
  refine ((pK.calls dR dS aZ aZ w4 (Kd.fC HR.out HB.out) HC.out (by rw [pK.f, if_pos (by omega)])).mono ?_)
  rintro e w5 ⟨v, rfl, ho, hb⟩
  have n0_ := aA.mk (bC HB.out hb); have n2_ := aA.mk (bG BKR.out hb); have HO := aA.mk (Kd.rO ho HB.out.size)
  obtain ⟨A, c, e⟩ := Kd.dU ho
  subst e
  clear HB BKD BKR d0 hb ho; have HB := n0_; have BKR := n2_; clear n0_ n2_
  go_wp2_with (first
 |((with_reducible refine aN (N := 7) rfl ?_);
   refine dH ?hg (N := 7) ?hd (cs := #[.slice none 0 0, .bool false, .int .i64 0, .int .i64 0]) (t := 27) ?hr ?_;
   (case hd => rfl); (case hg => rfl); (case hr => first | (go_simp; done) | (go_simp; rfl));
   intro go hg w6 hbox hb;
   have n0_ := aA.mk (bC HB.out hb); have n1_ := aA.mk (bG BKR.out hb); have n2_ := aA.mk (Kd.pJ HO.out hb);
   have GO := aA.mk (show w.heap.size ≤ go by rw [hg]; exact HB.out.size); have NRO := aA.mk (show gr ≠ go by rw [hg]; exact Nat.ne_of_lt (fZ BKR.out));
   clear HB BKR HO; have HB := n0_; have BKR := n1_; have HO := n2_; have BKO := aA.mk hbox; clear n0_ n1_ n2_ hg hbox hb;
   have o0 : w6.cell? ⟨go, 0, none⟩ = some (.slice none 0 0) := (aG BKO.out 0).trans rfl;
   have o1 : w6.cell? ⟨go, 1, none⟩ = some (.bool false) := (aG BKO.out 1).trans rfl;
   have o2 : w6.cell? ⟨go, 2, none⟩ = some (.int .i64 0) := (aG BKO.out 2).trans rfl;
   have o3 : w6.cell? ⟨go, 3, none⟩ = some (.int .i64 0) := (aG BKO.out 3).trans rfl;
   have of0 := aC BKO.out 0; have of1 := aC BKO.out 1; have of2 := aC BKO.out 2; have of3 := aC BKO.out 3)
 |fail)
  go_loopw [23] (fun v23 wr => ∃ k : Nat, v23 = .int .i64 (k : Int) ∧ k ≤ aZ.length ∧ aA (Below w.heap.size w wr) ∧ aA (wr.heap[gr]? = some (.cells #[.slice none 0 0, .bool false, .int .i64 0, .int .i64 0] 27 (0, 0)))
    ∧ aA (wr.heap[go]? = some (.cells #[.slice A aZ.length c, .bool false, .int .i64 (-1), .int .i64 (-1)] 27 (0, 0))) ∧ aA (Kd.R k67 67 wr w.heap.size (fun _ => True) (.slice A aZ.length c) (kM aZ l1 k)))
   (fun v23 _ => aZ.length - (intOf v23).toNat)
  case atStart =>
   refine ⟨0, rfl, by omega, ⟨kL HB.out GO.out _ _ _ _⟩, ⟨qji BKR.out NRO.out _ _ _ _⟩, ⟨uV BKO.out _ _ _ _⟩, ⟨?_⟩⟩
   have e : kM aZ l1 0 = aZ := by simp [kM]
   rw [e]
   exact R4 HO.out BKO.out (by decide) _ _ _ _
  case round =>
   clear HB BKR BKO HO o0 o1 o2 o3 of0 of1 of2 of3
   obtain ⟨k, rfl, hkn, HB, BKR, BKO, HO⟩ := hrel
   by_cases hlt : k < aZ.length
   ·obtain ⟨x, hx⟩ : ∃ x, aZ[k]? = some x := ⟨_, List.getElem?_eq_getElem hlt⟩
    have hck := iR aZ l1 k hkn
    have hxk := qb6 (ks := l1) hx
    have ⟨e0, e1, e2⟩ := jB _ k x hxk
    rw [← hck] at HO
    obtain ⟨g, cur, hA, _, hg, hh, h3, h4, h5, h6⟩ := lV HO.out (by omega)
    subst hA
    rw [hck] at HO h3
    have s1 : wr.cell? ⟨go, 0, none⟩ = some (.slice (some ⟨g, 0, none⟩) aZ.length c) := (aG BKO.out 0).trans rfl
    have s3 : wr.cell? ⟨g, k * 3 + 1, none⟩ = some (.string x.f1) := kE hh h6 e1
    have s4 : wr.cell? ⟨g, k * 3 + 2, none⟩ = some (.int .i64 x.f2) := kE hh h6 e2
    have s5 := aC hh (k * 3 + 2)
    have s6 := aC hh (k * 3 + 1)
    have NGO := aA.mk (show g ≠ go from fU hh BKO.out (by decide))
    have NGR := aA.mk (show g ≠ gr from fU hh BKR.out (by decide))
    have HG := aA.mk hg
    have HH := aA.mk hh
    have HX := aA.mk hx
    have HXK := aA.mk hxk
    have hr2 := qB HOK.out hx
    have hi0 : (0 : Int) ≤ (k : Int) := by omega
    have hi1 : (k : Int) < (aZ.length : Int) := by omega
    clear hh hg h4 h5 h6 e0 e1 e2 hx hxk hck
    by_cases hk2 : k < l1.length
    ·obtain ⟨ad, e, hkc⟩ := Kd.qfM HK1.out (k : Int) (by omega) (by omega)
     subst e
     have hkb := World.block_lt_of_cell? w _ hkc
     have hne : ad.block ≠ g := fun e => by rw [add_block] at hkb; have := HG.out; omega
     have qjt := (HB.out.cell hkb).trans hkc
     clear hkc hkb
     have hi2 : (k : Int) < (l1.length : Int) := by omega
     simp only [Int.toNat_natCast] at qjt
     have hS := TJ hr2.2.2.1 hr2.2.2.2 (some (rd l1 (k : Int)))
     simp only [CW] at hS
     have hm1 : 0 ≤ mn (mx (rd l1 (k : Int)) 0) ((x.f1.size : Int) - x.f2) := by omega
     have hm2 : mn (mx (rd l1 (k : Int)) 0) ((x.f1.size : Int) - x.f2) ≤ (x.f1.size : Int) - x.f2 := by omega
     go_wp2
     go_region
     go_wp2
     go_region
     go_wp2
     have el : l1[k]? = some (rd l1 (k : Int)) := qgJ hk2
     obtain ⟨q, hq⟩ : ∃ q, q = CW x (some (rd l1 (k : Int))) := ⟨_, rfl⟩
     have e : kM aZ l1 (k + 1) = (((kM aZ l1 k).set k ⟨x.f0, x.f1, q⟩).set k ⟨x.f0, x.f1.extract 0 q.toNat, q⟩) := by
      rw [← LP (ks := l1) HX.out, el, List.set_set, TI, ← hq]
     rw [show x.f2 + mn (mx (rd l1 (k : Int)) 0) ((x.f1.size : Int) - x.f2) = q from hq.symm]
     refine ⟨⟨k + 1, by congr 1, by omega, ⟨fE (bH (fE (bH HB.out HG.out)) HG.out)⟩,
      ⟨bJ (dB (p := ⟨g, k * 3 + 1, none⟩) (bJ (dB (p := ⟨g, k * 3 + 2, none⟩) BKR.out (fun e => NGR.out e.symm) _)) (fun e => NGR.out e.symm) _)⟩,
      ⟨bJ (dB (p := ⟨g, k * 3 + 1, none⟩) (bJ (dB (p := ⟨g, k * 3 + 2, none⟩) BKO.out (fun e => NGO.out e.symm) _)) (fun e => NGO.out e.symm) _)⟩, ⟨?_⟩⟩, by simp [intOf]; omega⟩
     have ho := HO.out
     rw [← iR aZ l1 k hkn] at ho
     have h := zX (u := .int .i64 q) ho (l' := (kM aZ l1 k).set k ⟨x.f0, x.f1, q⟩) (by rw [List.length_set]) (jK _ k x _ HXK.out) (j := k * 3 + 2) (by rw [iR aZ l1 k hkn]; omega)
     have h := zX (u := .string (x.f1.extract 0 q.toNat)) h (l' := ((kM aZ l1 k).set k ⟨x.f0, x.f1, q⟩).set k ⟨x.f0, x.f1.extract 0 q.toNat, q⟩) (by rw [List.length_set]) (jZ _ k ⟨x.f0, x.f1, q⟩ _ (by rw [List.getElem?_set_self (by rw [iR aZ l1 k hkn]; omega)])) (j := k * 3 + 1) (by rw [List.length_set, iR aZ l1 k hkn]; omega)
     rw [List.length_set, List.length_set, iR aZ l1 k hkn, ← e] at h
     exact h
    ·go_wp2
     go_region
     go_wp2
     have e : kM aZ l1 (k + 1) = ((kM aZ l1 k).set k ⟨x.f0, x.f1.extract 0 x.f2.toNat, x.f2⟩) := by
      rw [← LP (ks := l1) HX.out, List.getElem?_eq_none (by omega)]
      rfl
     refine ⟨⟨k + 1, by congr 1, by omega, ⟨fE (bH HB.out HG.out)⟩, ⟨bJ (dB (p := ⟨g, k * 3 + 1, none⟩) BKR.out (fun e => NGR.out e.symm) _)⟩, ⟨bJ (dB (p := ⟨g, k * 3 + 1, none⟩) BKO.out (fun e => NGO.out e.symm) _)⟩, ⟨?_⟩⟩, by simp [intOf]; omega⟩
     have ho := HO.out
     rw [← iR aZ l1 k hkn] at ho
     have h := zX (u := .string (x.f1.extract 0 x.f2.toNat)) ho (l' := (kM aZ l1 k).set k ⟨x.f0, x.f1.extract 0 x.f2.toNat, x.f2⟩) (by rw [List.length_set]) (jZ _ k x _ HXK.out) (j := k * 3 + 1) (by rw [iR aZ l1 k hkn]; omega)
     rw [List.length_set, iR aZ l1 k hkn, ← e] at h
     exact h
   ·obtain rfl : k = aZ.length := by omega
    have o0 : wr.cell? ⟨go, 0, none⟩ = some (.slice A aZ.length c) := (aG BKO.out 0).trans rfl
    have o1 : wr.cell? ⟨go, 1, none⟩ = some (.bool false) := (aG BKO.out 1).trans rfl
    have o2 : wr.cell? ⟨go, 2, none⟩ = some (.int .i64 (-1)) := (aG BKO.out 2).trans rfl
    have o3 : wr.cell? ⟨go, 3, none⟩ = some (.int .i64 (-1)) := (aG BKO.out 3).trans rfl
    have b0 : wr.cell? ⟨gr, 0, none⟩ = some (.slice none 0 0) := (aG BKR.out 0).trans rfl
    have b1 : wr.cell? ⟨gr, 1, none⟩ = some (.bool false) := (aG BKR.out 1).trans rfl
    have b2 : wr.cell? ⟨gr, 2, none⟩ = some (.int .i64 0) := (aG BKR.out 2).trans rfl
    have b3 : wr.cell? ⟨gr, 3, none⟩ = some (.int .i64 0) := (aG BKR.out 3).trans rfl
    have bf0 := aC BKR.out 0
    have bf1 := aC BKR.out 1
    have bf2 := aC BKR.out 2
    have bf3 := aC BKR.out 3
    go_wp2_with fail
    refine bodyPost_ret (fF rfl _ _ gr 27 #[.slice A aZ.length c, .bool false, .int .i64 (-1), .int .i64 (-1)] (0, 0) _ rfl (uV BKR.out _ _ _ _) Tryz.underlying27 rfl (by kernel_rfl)) rfl ?_
    have e := HE2.out
    simp only [Prod.mk.injEq] at e
    obtain ⟨rfl, rfl, rfl, rfl, rfl⟩ := e
    have e : kM aZ l1 aZ.length = gW aZ l1 := by
     rw [kM, List.take_of_length_le (by rw [kG]; omega), List.drop_length, List.append_nil]
    rw [← e]
    exact ⟨_, rfl, R4 HO.out BKR.out (by decide) _ _ _ _, kL HB.out GR.out _ _ _ _⟩
 ·refine ((dN.calls dR dS aZ bW bY bZ 6 w3 (Kd.fC HR.out HB.out) HC.out (by rw [dN.f, if_neg hok])).mono ?_)
  have HE2 : aA ((([] : List S67), false, (0 : Int), (0 : Int), (6 : Int)) = (r1, r2, r3, r4, r5)) := ⟨by have := HE.out; rwa [if_neg hok] at this⟩
  clear hok HE
  rintro e w4 ⟨rfl, hb⟩
  have n0_ := aA.mk (bC HB.out hb); have n2_ := aA.mk (bG BKR.out hb)
  clear HB BKD BKR d0 d1 d2 d3 hb; have HB := n0_; have BKR := n2_; clear n0_ n2_
  have b0 : w4.cell? ⟨gr, 0, none⟩ = some (.slice none 0 0) := (aG BKR.out 0).trans rfl
  have b1 : w4.cell? ⟨gr, 1, none⟩ = some (.bool false) := (aG BKR.out 1).trans rfl
  have b2 : w4.cell? ⟨gr, 2, none⟩ = some (.int .i64 0) := (aG BKR.out 2).trans rfl
  have b3 : w4.cell? ⟨gr, 3, none⟩ = some (.int .i64 0) := (aG BKR.out 3).trans rfl
  have bf0 := aC BKR.out 0
  have bf1 := aC BKR.out 1
  have bf2 := aC BKR.out 2
  have bf3 := aC BKR.out 3
  go_wp2_with fail
  refine bodyPost_ret (fF rfl _ _ gr 27 #[.slice none 0 0, .bool false, .int .i64 0, .int .i64 0] (0, 0) _ rfl (uV BKR.out _ _ _ _) Tryz.underlying27 rfl (by kernel_rfl)) rfl ?_
  have e := HE2.out
  simp only [Prod.mk.injEq] at e
  obtain ⟨rfl, rfl, rfl, rfl, rfl⟩ := e
  exact ⟨_, rfl, Kd.zV _ _ _ _ _, kL HB.out GR.out _ _ _ _⟩
end Go.Proofs.YtanonhipicoigaaGreatDoor.U
namespace Go.Proofs.YtanonhipicoigaaGreatDoor.U
open Go.RowKit Go.Proofs.YW.PrintWords Go.Proofs.YW.PrintLast Go.Proofs.YW.PrintMore
abbrev BL (a b : List UInt8) : Prop := Op.bytesLess a b = true
def names (l : List S67) : List (List UInt8) := l.map fun x => x.f0.toList
def WH (x : S67) : Prop := x.f0.size ≤ 4096 ∧ x.f1.size ≤ 262144 ∧ 0 ≤ x.f2 ∧ x.f2 ≤ (x.f1.size : Int)
theorem OJ {a b : List UInt8} (h : BL a b) : a ≠ b := by
 rintro rfl
 rw [BL, rY] at h
 cases h
theorem LQ : ∀ (l : List S67) (last : List UInt8), oH last l = true ↔ (last :: names l).Pairwise BL ∧ ∀ x ∈ l, WH x
 | [], last => by simp [oH, names]
 | x :: l, last => by
  have ih := LQ l x.f0.toList
  simp only [oH, Bool.and_eq_true, ih, CP, decide_eq_true_eq]
  constructor
  ·rintro ⟨⟨⟨⟨⟨h1, h2⟩, h3⟩, h4⟩, h5⟩, h6, h7⟩
   refine ⟨?_, ?_⟩
   ·refine List.pairwise_cons.2 ⟨?_, h6⟩
    intro a ha
    rcases List.mem_cons.1 ha with rfl | ha
    ·exact h1
    ·exact wY _ _ _ h1 ((List.pairwise_cons.1 h6).1 a ha)
   ·intro y hy
    rcases List.mem_cons.1 hy with rfl | hy
    ·exact ⟨h2, h3, h4, h5⟩
    ·exact h7 y hy
  ·rintro ⟨h1, h2⟩
   have h3 := List.pairwise_cons.1 h1
   obtain ⟨a, b, c, d⟩ := h2 x (List.mem_cons_self ..)
   exact ⟨⟨⟨⟨⟨h3.1 _ (List.mem_cons_self ..), a⟩, b⟩, c⟩, d⟩, h3.2, fun y hy => h2 y (List.mem_cons_of_mem _ hy)⟩
theorem jU (l : List S67) : bI l = true ↔ (([] : List UInt8) :: names l).Pairwise BL ∧ (∀ x ∈ l, WH x) ∧ l.length ≤ 64 := by
 simp only [bI, Bool.and_eq_true, LQ, decide_eq_true_eq, and_assoc]
theorem jV {l : List S67} (h : bI l = true) : l.length ≤ 64 := ((jU l).1 h).2.2
theorem LU {l : List S67} (h : bI l = true) : (names l).Pairwise BL := (List.pairwise_cons.1 ((jU l).1 h).1).2
theorem sQ {l : List S67} (h : bI l = true) {i j : Nat} {x y : S67} (hij : i < j) (hx : l[i]? = some x) (hy : l[j]? = some y) : BL x.f0.toList y.f0.toList := by
 have hp := LU h
 rw [List.pairwise_iff_getElem] at hp
 have hi : i < l.length := (List.getElem?_eq_some_iff.1 hx).1
 have hj : j < l.length := (List.getElem?_eq_some_iff.1 hy).1
 have := hp i j (by simpa [names] using hi) (by simpa [names] using hj) hij
 simp only [names, List.getElem_map] at this
 rw [(List.getElem?_eq_some_iff.1 hx).2, (List.getElem?_eq_some_iff.1 hy).2] at this
 exact this
theorem YM {l : List S67} (h : bI l = true) {i j : Nat} {x y : S67} (hx : l[i]? = some x) (hy : l[j]? = some y) (e : x.f0.toList = y.f0.toList) : i = j := by
 rcases Nat.lt_trichotomy i j with g | g | g
 ·exact absurd e (OJ (sQ h g hx hy))
 ·exact g
 ·exact absurd e.symm (OJ (sQ h g hy hx))
theorem WI (x y : ByteArray) : vP x y < 0 ↔ BL x.toList y.toList := by
 unfold vP BL
 split
 ·simp [*, rY]
 ·split <;> simp [*, rY]
theorem qb7 (x y : ByteArray) : vP x y = 0 ↔ x.toList = y.toList := by
 unfold vP
 split
 ·rename_i h
  constructor
  ·intro e; omega
  ·intro e; exact absurd e (OJ h)
 ·split <;> simp [*]
theorem bsGo_spec {l : List S67} (h : bI l = true) (s : ByteArray) : ∀ (f i j : Nat), i ≤ j → j ≤ l.length → j ≤ i + f →
  (∀ k x, k < i → l[k]? = some x → BL x.f0.toList s.toList) → (∀ k x, j ≤ k → l[k]? = some x → ¬ BL x.f0.toList s.toList) →
  (∀ k x, k < bsGo l s f i j → l[k]? = some x → BL x.f0.toList s.toList) ∧ (∀ k x, bsGo l s f i j ≤ k → l[k]? = some x → ¬ BL x.f0.toList s.toList)
 | 0, i, j, hij, hj, hf, h1, h2 => by
  have : i = j := by omega
  subst this
  exact ⟨h1, h2⟩
 | f + 1, i, j, hij, hj, hf, h1, h2 => by
  unfold bsGo
  split
  ·rename_i hlt
   have hm : (i + j) / 2 < l.length := by omega
   have hx : l[(i + j) / 2]? = some (dY l (((i + j) / 2 : Nat) : Int)) := by
    simp only [dY, Int.toNat_natCast, List.getD_eq_getElem?_getD, List.getElem?_eq_getElem hm]
    rfl
   split
   ·rename_i hc
    rw [WI] at hc
    refine bsGo_spec h s f _ _ (by omega) hj (by omega) ?_ h2
    intro k x hk hkx
    rcases Nat.lt_or_ge k ((i + j) / 2) with g | g
    ·exact wY _ _ _ (sQ h g hkx hx) hc
    ·have : k = (i + j) / 2 := by omega
     subst this
     rw [hx] at hkx
     injection hkx with e
     subst e
     exact hc
   ·rename_i hc
    rw [WI] at hc
    refine bsGo_spec h s f _ _ (by omega) (by omega) (by omega) h1 ?_
    intro k x hk hkx hb
    rcases Nat.lt_or_ge ((i + j) / 2) k with g | g
    ·exact hc (wY _ _ _ (sQ h g hx hkx) hb)
    ·have : k = (i + j) / 2 := by omega
     subst this
     rw [hx] at hkx
     injection hkx with e
     subst e
     exact hc hb
  ·have : i = j := by omega
   subst this
   exact ⟨h1, h2⟩
theorem qfv {l : List S67} (h : bI l = true) (s : ByteArray) {k : Nat} {x : S67} (hk : k < bsOf l s) (hx : l[k]? = some x) : BL x.f0.toList s.toList :=
 (bsGo_spec h s l.length 0 l.length (by omega) (by omega) (by omega) (fun k x hk => by omega) (fun k x hk hx => by have := (List.getElem?_eq_some_iff.1 hx).1; omega)).1 k x hk hx
theorem qdr {l : List S67} (h : bI l = true) (s : ByteArray) {k : Nat} {x : S67} (hk : bsOf l s ≤ k) (hx : l[k]? = some x) : ¬ BL x.f0.toList s.toList :=
 (bsGo_spec h s l.length 0 l.length (by omega) (by omega) (by omega) (fun k x hk => by omega) (fun k x hk hx => by have := (List.getElem?_eq_some_iff.1 hx).1; omega)).2 k x hk hx
theorem qas (l : List S67) (s : ByteArray) : bsOf l s ≤ l.length := (NK l s _ 0 l.length (Nat.zero_le _)).2
theorem uZ (l : List S67) (s : ByteArray) (i : Nat) : lI l s i = true ↔ ∃ x, l[i]? = some x ∧ x.f0.toList = s.toList := by
 simp only [lI, Bool.and_eq_true, decide_eq_true_eq, beq_iff_eq, qb7]
 constructor
 ·rintro ⟨hi, e⟩
  refine ⟨l[i], List.getElem?_eq_getElem hi, ?_⟩
  rwa [iC (List.getElem?_eq_getElem hi)] at e
 ·rintro ⟨x, hx, e⟩
  exact ⟨(List.getElem?_eq_some_iff.1 hx).1, by rw [iC hx]; exact e⟩
theorem OL {l : List S67} (h : bI l = true) (s : ByteArray) {x : S67} (hx : x ∈ l) (e : x.f0.toList = s.toList) : l[bsOf l s]? = some x := by
 obtain ⟨k, hk⟩ := List.getElem?_of_mem hx
 rcases Nat.lt_trichotomy k (bsOf l s) with g | g | g
 ·exact absurd e (OJ (qfv h s g hk))
 ·rw [← g]; exact hk
 ·have hlt : bsOf l s < l.length := by have := (List.getElem?_eq_some_iff.1 hk).1; omega
  have hy := List.getElem?_eq_getElem hlt
  have := sQ h g hy hk
  rw [e] at this
  exact absurd this (qdr h s (Nat.le_refl _) hy)
theorem qb8 {l : List S67} {i : Nat} {x y : S67} (hx : l[i]? = some x) (e : y.f0 = x.f0) : names (l.set i y) = names l := by
 unfold names
 rw [List.map_set]
 apply List.ext_getElem?
 intro j
 rw [List.getElem?_set]
 split
 ·rename_i hj
  subst hj
  have hi := (List.getElem?_eq_some_iff.1 hx).1
  rw [if_pos (by simpa using hi)]
  simp [List.getElem?_map, hx, e]
 ·rfl
theorem qb9 {l : List S67} (h : bI l = true) {i : Nat} {x y : S67} (hx : l[i]? = some x) (e : y.f0 = x.f0) (hy : WH y) : bI (l.set i y) = true := by
 have h' := (jU l).1 h
 refine (jU _).2 ⟨by rw [qb8 hx e]; exact h'.1, fun z hz => ?_, by rw [List.length_set]; exact h'.2.2⟩
 rcases List.mem_or_eq_of_mem_set hz with hz | rfl
 ·exact h'.2.1 z hz
 ·exact hy
theorem mem_set {l : List S67} (h : bI l = true) {i : Nat} {x y z : S67} (hx : l[i]? = some x) (e : y.f0 = x.f0) (hz : z.f0.toList ≠ x.f0.toList) : z ∈ l.set i y ↔ z ∈ l := by
 constructor
 ·intro g
  rcases List.mem_or_eq_of_mem_set g with g | rfl
  ·exact g
  ·exact absurd (by rw [e]) hz
 ·intro g
  obtain ⟨k, hk⟩ := List.getElem?_of_mem g
  have : i ≠ k := by
   rintro rfl
   rw [hx] at hk
   injection hk with hk
   exact hz (by rw [hk])
  exact List.mem_of_getElem? (i := k) (by rw [List.getElem?_set_ne this]; exact hk)
theorem TK {l : List S67} {i : Nat} {x y : S67} (hx : l[i]? = some x) : y ∈ l.set i y :=
 List.mem_of_getElem? (i := i) (by rw [List.getElem?_set_self (List.getElem?_eq_some_iff.1 hx).1])
theorem vC {l : List S67} (h : bI l = true) (i : Nat) : bI (l.take i ++ l.drop (i + 1)) = true := by
 have h' := (jU l).1 h
 have hs : (l.take i ++ l.drop (i + 1)).Sublist l := by
  conv => rhs; rw [← List.take_append_drop i l]
  exact List.Sublist.append (List.Sublist.refl _) (by rw [← List.drop_drop]; exact List.drop_sublist _ _)
 refine (jU _).2 ⟨h'.1.sublist ((hs.map _).cons_cons _), fun z hz => h'.2.1 z (hs.subset hz), Nat.le_trans hs.length_le h'.2.2⟩
theorem NM {l : List S67} (i : Nat) (y z : S67) : z ∈ l.take i ++ [y] ++ l.drop i ↔ z = y ∨ z ∈ l := by
 conv => rhs; rw [← List.take_append_drop i l]
 simp only [List.mem_append, List.mem_singleton]
 constructor
 ·rintro ((h | h) | h)
  ·exact .inr (.inl h)
  ·exact .inl h
  ·exact .inr (.inr h)
 ·rintro (h | h | h)
  ·exact .inl (.inr h)
  ·exact .inl (.inl h)
  ·exact .inr h
theorem qca {l : List S67} (h : bI l = true) {s : ByteArray} {y : S67} (hi : lI l s (bsOf l s) = false) (hy : WH y) (hn : y.f0 = s) (hne : s.toList ≠ []) (hlen : l.length < 64) : bI (l.take (bsOf l s) ++ [y] ++ l.drop (bsOf l s)) = true := by
 have h' := (jU l).1 h
 have hp := List.pairwise_cons.1 h'.1
 refine (jU _).2 ⟨List.pairwise_cons.2 ⟨?_, ?_⟩, ?_, ?_⟩
 ·intro a ha
  simp only [names, List.map_append, List.mem_append, List.map_cons, List.map_nil, List.mem_singleton] at ha
  rcases ha with (ha | rfl) | ha
  ·rw [List.map_take] at ha
   exact hp.1 a (List.mem_of_mem_take ha)
  ·rw [hn]
   rcases GH [] s.toList with g | g | g
   ·exact g
   ·exact absurd g.symm hne
   ·revert g; cases s.toList <;> simp [Op.bytesLess]
  ·rw [List.map_drop] at ha
   exact hp.1 a (List.mem_of_mem_drop ha)
 ·simp only [names, List.map_append, List.map_cons, List.map_nil]
  rw [List.append_assoc, List.pairwise_append, List.pairwise_append, List.map_take, List.map_drop]
  have hlo : ∀ a ∈ (names l).take (bsOf l s), BL a s.toList := by
   intro a ha
   obtain ⟨k, hk⟩ := List.getElem?_of_mem ha
   have hki : k < bsOf l s := by
    have := (List.getElem?_eq_some_iff.1 hk).1
    simp only [List.length_take] at this
    omega
   rw [List.getElem?_take_of_lt hki, names, List.getElem?_map] at hk
   cases e : l[k]? with
   | none => rw [e] at hk; cases hk
   | some x =>
    rw [e] at hk
    injection hk with hk
    subst hk
    exact qfv h s hki e
  have hhi : ∀ a ∈ (names l).drop (bsOf l s), BL s.toList a := by
   intro a ha
   obtain ⟨k, hk⟩ := List.getElem?_of_mem ha
   rw [List.getElem?_drop, names, List.getElem?_map] at hk
   cases e : l[bsOf l s + k]? with
   | none => rw [e] at hk; cases hk
   | some x =>
    rw [e] at hk
    injection hk with hk
    subst hk
    rcases GH s.toList x.f0.toList with g | g | g
    ·exact g
    ·have hb := OL h s (List.mem_of_getElem? e) g.symm
     rw [(uZ _ _ _).2 ⟨x, hb, g.symm⟩] at hi
     cases hi
    ·exact absurd g (qdr h s (by omega) e)
  refine ⟨hp.2.sublist (List.take_sublist _ _), ⟨List.pairwise_singleton _ _, hp.2.sublist (List.drop_sublist _ _), ?_⟩, ?_⟩
  ·intro a ha b hb
   rw [List.mem_singleton.1 ha, hn]
   exact hhi b hb
  ·intro a ha b hb
   rcases List.mem_append.1 hb with hb | hb
   ·rw [List.mem_singleton.1 hb, hn]
    exact hlo a ha
   ·exact wY _ _ _ (hlo a ha) (hhi b hb)
 ·intro z hz
  rcases (NM _ _ _).1 hz with rfl | hz
  ·exact hy
  ·exact h'.2.1 z hz
 ·simp only [List.length_append, List.length_take, List.length_drop, List.length_singleton]
  have := qas l s
  omega
attribute [local go_sem] iJ iK jP jQ gX gY iW iY
end Go.Proofs.YtanonhipicoigaaGreatDoor.U
namespace Go.Proofs.YtanonhipicoigaaGreatDoor.U
open Go.RowKit Go.Proofs.YW.PrintWords Go.Proofs.YW.PrintLast Go.Proofs.YW.PrintMore
attribute [local go_sem] iJ iK jP jQ gX gY iW iY
end Go.Proofs.YtanonhipicoigaaGreatDoor.U
namespace Go.Proofs.YtanonhipicoigaaGreatDoor.U
open Go.RowKit Go.Proofs.YW.PrintWords Go.Proofs.YW.PrintLast Go.Proofs.YW.PrintMore
def jC (l : List S67) (dn : Bool) (fu fa : Int) (s d : ByteArray) : List S67 × Bool × Int × Int × Int := cZ l dn fu fa s true (rfW d l) (fun i => l.set i.toNat ⟨(dY l i).f0, (dY l i).f1 ++ d, (dY l i).f2⟩)
def GK (l : List S67) (dn : Bool) (fu fa : Int) (s : ByteArray) (n : Int) : List S67 × Bool × Int × Int × Int := cZ l dn fu fa s false (rfT n l) (fun i => l.set i.toNat ⟨(dY l i).f0, (dY l i).f1.extract 0 n.toNat, n⟩)
def iF (l : List S67) (dn : Bool) (fu fa : Int) (s : ByteArray) : List S67 × Bool × Int × Int × Int := cZ l dn fu fa s false (fun _ b => if b = true then 0 else 7) (fun i => l.take i.toNat ++ l.drop (i.toNat + 1))
def rH (l : List S67) (dn : Bool) (fu fa : Int) (s : ByteArray) : List S67 × Bool × Int × Int × Int := cZ l dn fu fa s false (fun _ b => if b = true then 0 else 7) (fun i => l.set i.toNat ⟨(dY l i).f0, (dY l i).f1, ((dY l i).f1.size : Int)⟩)
def kC (l : List S67) (dn : Bool) (fu fa : Int) (s : ByteArray) : List S67 × Bool × Int × Int × Int := cZ l dn fu fa s false (rfC s l.length) (fun i => l.take i.toNat ++ [(⟨s, ⟨#[]⟩, 0⟩ : S67)] ++ l.drop i.toNat)
theorem OM (l : List S67) (dn : Bool) (fu fa : Int) (s d : ByteArray) : qQ.f l dn fu fa s d = some (jC l dn fu fa s d) := rfl
theorem WJ (l : List S67) (dn : Bool) (fu fa : Int) (s : ByteArray) (n : Int) : wZ.f l dn fu fa s n = some (GK l dn fu fa s n) := rfl
theorem xA (l : List S67) (dn : Bool) (fu fa : Int) (s : ByteArray) : o9.f l dn fu fa s = some (iF l dn fu fa s) := rfl
theorem TL (l : List S67) (dn : Bool) (fu fa : Int) (s : ByteArray) : uY.f l dn fu fa s = some (rH l dn fu fa s) := rfl
theorem OO (l : List S67) (dn : Bool) (fu fa : Int) (s : ByteArray) : qP.f l dn fu fa s = some (kC l dn fu fa s) := rfl
theorem oP {l : List S67} (h : bI l = true) (s : ByteArray) (wr : Bool) (rf : Int → Bool → Int) (df : Int → List S67) :
  cZ l false (-1) (-1) s wr rf df = if rf (bsOf l s) (lI l s (bsOf l s)) = 0 then (df (bsOf l s), false, -1, -1, 0) else (l, false, -1, -1, rf (bsOf l s) (lI l s (bsOf l s))) := by
 simp [cZ, h]
end Go.Proofs.YtanonhipicoigaaGreatDoor.U
