import Derived.Test.YtanonhipicoigaaGreatDoorZQaj
import Derived.Deep.RegionLawGrows
import Derived.Test.YtanonhipicoigaaGreatDoorZQag
set_option linter.unusedVariables false
set_option linter.unusedSimpArgs false
namespace Go.Proofs.YtanonhipicoigaaGreatDoor.U
open Go.RowKit Go.Proofs.YW.PrintWords Go.Proofs.YW.PrintLast Go.Proofs.YW.PrintMore
def V9 (w : World) (base gp : Nat) (v : Value) (l : List S67) (dn : Bool) (fu fa : Int) : Prop :=
 w.heap[gp]? = some (.cells #[v, .bool dn, .int .i64 fu, .int .i64 fa] 211 (0, 0)) ∧ Kd.R k67 67 w base (fun _ => True) v l
def Done (w : World) (base gp : Nat) (dn : Bool) (fu fa : Int) (l' : List S67) (e : Ending) (w4 : World) : Prop :=
 e = .returned (.tuple #[]) ∧ ∃ v' : Value, w4.heap[gp]? = some (.cells #[v', .bool dn, .int .i64 fu, .int .i64 fa] 211 (0, 0)) ∧ Kd.R k67 67 w4 base (fun _ => True) v' l' ∧ Below base w w4 ∧
  ∀ (k : Nat) (cs : Array Value), w.heap[k]? = some (.cells cs 27 (0, 0)) → w4.heap[k]? = some (.cells cs 27 (0, 0))
theorem fU {w : World} {g g' t t' : Nat} {cs cs' : Array Value} (h : w.heap[g]? = some (.cells cs t (0, 0))) (h' : w.heap[g']? = some (.cells cs' t' (0, 0))) (ht : t ≠ t') : g ≠ g' := qfI h h' ht
theorem uX {l : List S67} {i : Nat} (h : i < l.length) : ∃ x, l[i]? = some x := ⟨l[i], List.getElem?_eq_getElem h⟩
theorem new1 (w : World) (o o' : Obj) : ((w.alloc o).alloc o').heap[w.heap.size]? = some o := bD (kJ w o) o'
theorem new2 (w : World) (o o' : Obj) : ((w.alloc o).alloc o').heap[w.heap.size + 1]? = some o' := by
 have h := kJ (w.alloc o) o'
 have e : (w.alloc o).heap.size = w.heap.size + 1 := by
  show (w.heap.push _).size = _
  simp
 rwa [e] at h
theorem RG (w : World) (o o' o'' : Obj) : (((w.alloc o).alloc o').alloc o'').heap[w.heap.size]? = some o := bD (new1 w o o') o''
theorem RH (w : World) (o o' o'' : Obj) : (((w.alloc o).alloc o').alloc o'').heap[w.heap.size + 1]? = some o' := bD (new2 w o o') o''
theorem qde (w : World) (o o' o'' : Obj) : (((w.alloc o).alloc o').alloc o'').heap[w.heap.size + 2]? = some o'' := by
 have h := new2 (w.alloc o) o' o''
 have e : (w.alloc o).heap.size = w.heap.size + 1 := by
  show (w.heap.push _).size = _
  simp
 rwa [e] at h
theorem qbW {w : World} {g t : Nat} {cs cs' : Array Value} (h : w.heap[g]? = some (.cells cs 179 (0, 0))) (ht : t ≠ 179) : ¬ w.heap[g]? = some (.cells cs' t (0, 0)) := by
 rw [h]
 intro e
 injection e with e
 injection e with _ e
 exact ht e.symm
theorem qdf : Enters 177 := fun args w => jW Tryz.func177 (by kernel_rfl) (by kernel_rfl) args w
set_option maxHeartbeats 4000000 in
set_option maxRecDepth 100000 in
theorem qes (gp b1 : Nat) (w : World) (base : Nat) (l : List S67) (A : Option Addr) (c : Nat) (dn : Bool) (fu fa : Int) (i : Nat) (x : S67) (hx : l[i]? = some x) (hb1 : w.heap[b1]? = some (.cells #[.pointer (some ⟨gp, 0, none⟩)] 176 (0, 0)))
  (hp : V9 w base gp (.slice A l.length c) l dn fu fa) :
  Calls Tryz.prog 177 #[.int .i64 (i : Int), .pointer (some ⟨b1, 0, none⟩)] w (Done w base gp dn fu fa (l.set i ⟨x.f0, x.f1, (x.f1.size : Int)⟩)) := by
 obtain ⟨hp, ho⟩ := hp
 have hlt : i < l.length := (List.getElem?_eq_some_iff.1 hx).1
 obtain ⟨g, cur, rfl, _, hg, hh, h3, h4, h5, h6⟩ := lV ho (by omega)
 obtain ⟨e0, e1, e2⟩ := jB l i x hx
 have s1 : w.cell? ⟨b1, 0, none⟩ = some (.pointer (some ⟨gp, 0, none⟩)) := (aG hb1 0).trans rfl
 have s2 : w.cell? ⟨gp, 0, none⟩ = some (.slice (some ⟨g, 0, none⟩) l.length c) := (aG hp 0).trans rfl
 have s3 : w.cell? ⟨g, i * 3 + 1, none⟩ = some (.string x.f1) := kE hh h6 e1
 have s4 : w.cell? ⟨g, i * 3 + 2, none⟩ = some (.int .i64 x.f2) := kE hh h6 e2
 have s5 := aC hh (i * 3 + 2)
 have ngp : g ≠ gp := fU hh hp (by decide)
 have HX := aA.mk hx
 have HO := aA.mk ho
 have HP := aA.mk hp
 have HH := aA.mk hh
 have NGP := aA.mk ngp
 have HG := aA.mk hg
 have hi0 : (0 : Int) ≤ (i : Int) := by omega
 have hi1 : (i : Int) < (l.length : Int) := by omega
 clear hx ho hp hh ngp h3 h4 h5 h6 e0 e1 e2 hb1 hg
 go_enter Tryz.func177, Tryz.ntmps177
 go_wp2
 refine gK (n := 19) (S := fun w' => w'.cell? ⟨b1, 0, none⟩ = some (.pointer (some ⟨gp, 0, none⟩)) ∧ w'.cell? ⟨gp, 0, none⟩ = some (.slice (some ⟨g, 0, none⟩) l.length c) ∧ w'.cell? ⟨g, i * 3 + 1, none⟩ = some (.string x.f1)) (ds := [18]) #[false, false, false, false, false, false, false, false, false, false, false, false, false, false, false, false, false, false, false] (by kernel_rfl) rfl rfl ⟨s1, s2, s3⟩ (fun hHeld => ?_)
 refine aQ (i := 5) (N := some 8) (v := ?_) (a' := ?_) #[false, false, false, false, false, true, false, false, false, false, false, false, false, false, false, false, false, false, false] rfl rfl (by kernel_rfl) (fun _ _ _ h => h) (Or.inl ⟨by rfl, ?_⟩) ?_ ?_
 rotate_left
 ·intro w'
  go_simp
  with_reducible rfl
 rotate_left
 ·simp only [Act.put, zA, zZ, zS, aI, aJ]
  rfl
 refine aQ (i := 11) (N := some 14) (v := ?_) (a' := ?_) #[false, false, false, false, false, true, false, false, false, false, false, true, false, false, false, false, false, false, false] rfl rfl (by kernel_rfl) (fun _ _ _ h => h) (Or.inl ⟨by rfl, ?_⟩) ?_ ?_
 rotate_left
 ·intro w'
  go_simp
  with_reducible rfl
 rotate_left
 ·simp only [Act.put, zA, zZ, zS, aI, aJ]
  rfl
 refine dD (i := 0) (N := some 3) (v := ?_) (a' := ?_) #[true, false, false, false, false, true, false, false, false, false, false, true, false, false, false, false, false, false, false] rfl rfl (by kernel_rfl) (fun _ _ _ h => h) (Or.inl ⟨by rfl, ?_⟩) hHeld ?_ ?_
 rotate_left
 ·rintro w' ⟨s0, s1, s2⟩
  go_simp
  with_reducible rfl
 rotate_left
 ·simp only [Act.put, zA, zZ, zS, aI, aJ]
  rfl
 refine aQ (i := 1) (N := some 4) (v := ?_) (a' := ?_) #[true, true, false, false, false, true, false, false, false, false, false, true, false, false, false, false, false, false, false] rfl rfl (by kernel_rfl) (fun _ _ _ h => h) (Or.inl ⟨by rfl, ?_⟩) ?_ ?_
 rotate_left
 ·intro w'
  go_simp
  with_reducible rfl
 rotate_left
 ·simp only [Act.put, zA, zZ, zS, aI, aJ]
  rfl
 refine aQ (i := 2) (N := some 5) (v := ?_) (a' := ?_) #[true, true, true, false, false, true, false, false, false, false, false, true, false, false, false, false, false, false, false] rfl rfl (by kernel_rfl) (fun _ _ _ h => h) (Or.inl ⟨by rfl, ?_⟩) ?_ ?_
 rotate_left
 ·intro w'
  go_simp
  with_reducible rfl
 rotate_left
 ·simp only [Act.put, zA, zZ, zS, aI, aJ]
  rfl
 refine aQ (i := 3) (N := some 6) (v := ?_) (a' := ?_) #[true, true, true, true, false, true, false, false, false, false, false, true, false, false, false, false, false, false, false] rfl rfl (by kernel_rfl) (fun _ _ _ h => h) (Or.inl ⟨by rfl, ?_⟩) ?_ ?_
 rotate_left
 ·intro w'
  go_simp
  with_reducible rfl
 rotate_left
 ·simp only [Act.put, zA, zZ, zS, aI, aJ]
  rfl
 refine dD (i := 4) (N := some 7) (v := ?_) (a' := ?_) #[true, true, true, true, true, true, false, false, false, false, false, true, false, false, false, false, false, false, false] rfl rfl (by kernel_rfl) (fun _ _ _ h => h) (Or.inl ⟨by rfl, ?_⟩) hHeld ?_ ?_
 rotate_left
 ·rintro w' ⟨s0, s1, s2⟩
  go_simp
  with_reducible rfl
 rotate_left
 ·simp only [Act.put, zA, zZ, zS, aI, aJ]
  rfl
 refine dD (i := 6) (N := some 9) (v := ?_) (a' := ?_) #[true, true, true, true, true, true, true, false, false, false, false, true, false, false, false, false, false, false, false] rfl rfl (by kernel_rfl) (fun _ _ _ h => h) (Or.inl ⟨by rfl, ?_⟩) hHeld ?_ ?_
 rotate_left
 ·rintro w' ⟨s0, s1, s2⟩
  go_simp
  with_reducible rfl
 rotate_left
 ·simp only [Act.put, zA, zZ, zS, aI, aJ]
  rfl
 refine aQ (i := 7) (N := some 10) (v := ?_) (a' := ?_) #[true, true, true, true, true, true, true, true, false, false, false, true, false, false, false, false, false, false, false] rfl rfl (by kernel_rfl) (fun _ _ _ h => h) (Or.inl ⟨by rfl, ?_⟩) ?_ ?_
 rotate_left
 ·intro w'
  go_simp
  with_reducible rfl
 rotate_left
 ·simp only [Act.put, zA, zZ, zS, aI, aJ]
  rfl
 refine aQ (i := 8) (N := some 11) (v := ?_) (a' := ?_) #[true, true, true, true, true, true, true, true, true, false, false, true, false, false, false, false, false, false, false] rfl rfl (by kernel_rfl) (fun _ _ _ h => h) (Or.inl ⟨by rfl, ?_⟩) ?_ ?_
 rotate_left
 ·intro w'
  go_simp
  with_reducible rfl
 rotate_left
 ·simp only [Act.put, zA, zZ, zS, aI, aJ]
  rfl
 refine aQ (i := 9) (N := some 12) (v := ?_) (a' := ?_) #[true, true, true, true, true, true, true, true, true, true, false, true, false, false, false, false, false, false, false] rfl rfl (by kernel_rfl) (fun _ _ _ h => h) (Or.inl ⟨by rfl, ?_⟩) ?_ ?_
 rotate_left
 ·intro w'
  go_simp
  with_reducible rfl
 rotate_left
 ·simp only [Act.put, zA, zZ, zS, aI, aJ]
  rfl
 refine dD (i := 10) (N := some 13) (v := ?_) (a' := ?_) #[true, true, true, true, true, true, true, true, true, true, true, true, false, false, false, false, false, false, false] rfl rfl (by kernel_rfl) (fun _ _ _ h => h) (Or.inl ⟨by rfl, ?_⟩) hHeld ?_ ?_
 rotate_left
 ·rintro w' ⟨s0, s1, s2⟩
  go_simp
  with_reducible rfl
 rotate_left
 ·simp only [Act.put, zA, zZ, zS, aI, aJ]
  rfl
 refine aQ (i := 12) (N := some 15) (v := ?_) (a' := ?_) #[true, true, true, true, true, true, true, true, true, true, true, true, true, false, false, false, false, false, false] rfl rfl (by kernel_rfl) (fun _ _ _ h => h) (Or.inl ⟨by rfl, ?_⟩) ?_ ?_
 rotate_left
 ·intro w'
  go_simp
  with_reducible rfl
 rotate_left
 ·simp only [Act.put, zA, zZ, zS, aI, aJ]
  rfl
 refine aQ (i := 13) (N := some 16) (v := ?_) (a' := ?_) #[true, true, true, true, true, true, true, true, true, true, true, true, true, true, false, false, false, false, false] rfl rfl (by kernel_rfl) (fun _ _ _ h => h) (Or.inl ⟨by rfl, ?_⟩) ?_ ?_
 rotate_left
 ·intro w'
  go_simp
  with_reducible rfl
 rotate_left
 ·simp only [Act.put, zA, zZ, zS, aI, aJ]
  rfl
 refine dD (i := 14) (N := some 17) (v := ?_) (a' := ?_) #[true, true, true, true, true, true, true, true, true, true, true, true, true, true, true, false, false, false, false] rfl rfl (by kernel_rfl) (fun _ _ _ h => h) (Or.inl ⟨by rfl, ?_⟩) hHeld ?_ ?_
 rotate_left
 ·rintro w' ⟨s0, s1, s2⟩
  go_simp
  with_reducible rfl
 rotate_left
 ·simp only [Act.put, zA, zZ, zS, aI, aJ]
  rfl
 refine aQ (i := 15) (N := some 18) (v := ?_) (a' := ?_) #[true, true, true, true, true, true, true, true, true, true, true, true, true, true, true, true, false, false, false] rfl rfl (by kernel_rfl) (fun _ _ _ h => h) (Or.inl ⟨by rfl, ?_⟩) ?_ ?_
 rotate_left
 ·intro w'
  go_simp
  with_reducible rfl
 rotate_left
 ·simp only [Act.put, zA, zZ, zS, aI, aJ]
  rfl
 refine aQ (i := 16) (N := some 19) (v := ?_) (a' := ?_) #[true, true, true, true, true, true, true, true, true, true, true, true, true, true, true, true, true, false, false] rfl rfl (by kernel_rfl) (fun _ _ _ h => h) (Or.inl ⟨by rfl, ?_⟩) ?_ ?_
 rotate_left
 ·intro w'
  go_simp
  with_reducible rfl
 rotate_left
 ·simp only [Act.put, zA, zZ, zS, aI, aJ]
  rfl
 refine aQ (i := 17) (N := some 20) (v := ?_) (a' := ?_) #[true, true, true, true, true, true, true, true, true, true, true, true, true, true, true, true, true, true, false] rfl rfl (by kernel_rfl) (fun _ _ _ h => h) (Or.inl ⟨by rfl, ?_⟩) ?_ ?_
 rotate_left
 ·intro w'
  go_simp
  with_reducible rfl
 rotate_left
 ·simp only [Act.put, zA, zZ, zS, aI, aJ]
  rfl
 refine o7 (i := 18) (N := none) #[true, true, true, true, true, true, true, true, true, true, true, true, true, true, true, true, true, true, true] rfl rfl (by kernel_rfl) (by decide) (fun K hK => ?_)
 refine wU (w1 := ?_) (by rfl) rfl ?_ ?_
 rotate_left
 ·go_simp
  rfl
 refine hK.out _ _ ?_
 clear hK K
 refine jR (by kernel_rfl) ?_
 go_end0
 refine ⟨rfl, .slice (some ⟨g, 0, none⟩) l.length c, bJ (dB (p := ⟨g, i * 3 + 2, none⟩) HP.out (fun e => NGP.out e.symm) _), ?_, fE ((Below.refl base w).setCell HG.out _), fun k cs h => bJ (dB (p := ⟨g, i * 3 + 2, none⟩) h (fU h HH.out (by decide)) _)⟩
 have h := zX (u := .int .i64 (x.f1.size : Int)) HO.out (l' := l.set i ⟨x.f0, x.f1, (x.f1.size : Int)⟩) (by rw [List.length_set]) (jK l i x _ HX.out) (j := i * 3 + 2) (by omega)
 rw [List.length_set] at h
 exact h
set_option maxHeartbeats 4000000 in
set_option maxRecDepth 100000 in
theorem qet (W : World) (l : List S67) (dn : Bool) (fu fa : Int) (sd : Int → List S67) (hsd : ∀ (i : Nat) (x : S67), l[i]? = some x → sd (i : Int) = l.set i ⟨x.f0, x.f1, (x.f1.size : Int)⟩) :
  OfV W 130 #[] l dn fu fa false (fun _ b => if b = true then 0 else 7) sd := by
 intro w1 gp v hb hgp hp ho hok
 obtain ⟨A, c, rfl⟩ := Kd.dU ho
 have hlt : gp < w1.heap.size := fZ hp
 go_enter Tryz.func130, Tryz.ntmps130
 go_wp2
 refine bodyPost_ret (results_cell_row rfl _ _ (w1.heap.size + 1) 179 #[.func (.func 160) #[] #[], .func (.func 177) #[] #[.pointer (some ⟨w1.heap.size, 0, none⟩)], .bool false] (0, 0) _ rfl (new2 w1 _ _) Tryz.underlying179 rfl (by kernel_rfl)) rfl ?_
 refine ⟨_, _, rfl, aT (aT (Below.refl _ _) _) _, ⟨160, #[], rfl, V8, fun w3 i b _ _ _ => fD (by simp) ((o8 i b w3).mono ?_)⟩, 177, _, rfl, qdf, fun w3 i b dn fu fa hk hil hib hrf hp3 ho3 => ?_⟩
 ·rintro e w4 ⟨rfl, rfl⟩
  exact ⟨rfl, Below.refl _ _⟩
 ·have hbt : b = true := by
   cases b
   ·simp at hrf
   ·rfl
  obtain ⟨x, hx⟩ := uX (hib hbt)
  refine fD (by simp) ((qes gp w1.heap.size w3 W.heap.size l A c dn fu fa i x hx (hk _ _ _ (by decide) (by decide) (fun h => by injection h with h; omega) (new1 w1 _ _)) ⟨hp3, ho3⟩).mono fun e w4 h => ?_)
  rw [hsd i x hx]
  exact h
def rfC (name : ByteArray) (n : Nat) (_ : Int) (b : Bool) : Int := if name.toList = [] ∨ 4096 < name.size then 4 else if b = true then 6 else if 64 ≤ n then 8 else 0
theorem qdg : Enters 166 := fun args w => jW Tryz.func166 (by kernel_rfl) (by kernel_rfl) args w
theorem qdh : Enters 167 := fun args w => jW Tryz.func167 (by kernel_rfl) (by kernel_rfl) args w
set_option maxHeartbeats 4000000 in
set_option maxRecDepth 100000 in
theorem QM (w : World) (gp b1 b2 : Nat) (name : ByteArray) (A : Option Addr) (n c : Nat) (i : Int) (b : Bool) (hn : n ≤ 9223372036854775807) (hb2 : w.cell? ⟨b2, 0, none⟩ = some (.string name)) (hb1 : w.cell? ⟨b1, 0, none⟩ = some (.pointer (some ⟨gp, 0, none⟩))) (hp : w.cell? ⟨gp, 0, none⟩ = some (.slice A n c)) :
  Calls Tryz.prog 166 #[.int .i64 i, .bool b, .pointer (some ⟨b2, 0, none⟩), .pointer (some ⟨b1, 0, none⟩)] w fun e w' => e = .returned (.int .i64 (rfC name n i b)) ∧ w = w' := by
 obtain ⟨R, hR⟩ : ∃ R, R = rfC name n i b := ⟨_, rfl⟩
 rw [← hR]
 have HR := aA.mk hR
 clear hR
 by_cases h1 : name.toList = []
 ·have HE : aA (R = 4) := ⟨by rw [HR.out, rfC, if_pos (.inl h1)]⟩
  have h1b : name.toList.isEmpty = true := by simp [h1]
  clear h1
  go_enter Tryz.func166, Tryz.ntmps166
  go_wp2
  go_ret
  exact ⟨by rw [HE.out]; rfl, rfl⟩
 ·have h1b : name.toList.isEmpty = false := by simp [h1]
  have h1c : (name.toList == []) = false := by simp [h1]
  by_cases h2 : 4096 < name.size
  ·have HE : aA (R = 4) := ⟨by rw [HR.out, rfC, if_pos (.inr h2)]⟩
   have h2b : decide ((4096 : Int) < (name.size : Int)) = true := by simp; omega
   clear h2
   go_enter Tryz.func166, Tryz.ntmps166
   go_wp2
   go_ret
   exact ⟨by rw [HE.out]; rfl, rfl⟩
  ·have h3 : ¬ (name.toList = [] ∨ 4096 < name.size) := by rintro (h | h) <;> contradiction
   have h2b : decide ((4096 : Int) < (name.size : Int)) = false := by simp; omega
   clear h2
   cases b with
   | true =>
    have HE : aA (R = 6) := ⟨by rw [HR.out, rfC, if_neg h3, if_pos rfl]⟩
    clear h3
    go_enter Tryz.func166, Tryz.ntmps166
    go_wp2
    go_ret
    exact ⟨by rw [HE.out]; rfl, rfl⟩
   | false =>
    by_cases h4 : 64 ≤ n
    ·have HE : aA (R = 8) := ⟨by rw [HR.out, rfC, if_neg h3, if_neg (by decide), if_pos h4]⟩
     have h4b : decide ((64 : Int) ≤ (n : Int)) = true := by simp; omega
     clear h3 h4
     go_enter Tryz.func166, Tryz.ntmps166
     go_wp2
     go_ret
     exact ⟨by rw [HE.out]; rfl, rfl⟩
    ·have HE : aA (R = 0) := ⟨by rw [HR.out, rfC, if_neg h3, if_neg (by decide), if_neg h4]⟩
     have h4b : decide ((64 : Int) ≤ (n : Int)) = false := by simp; omega
     clear h3 h4
     go_enter Tryz.func166, Tryz.ntmps166
     go_wp2
     go_ret
     exact ⟨by rw [HE.out]; rfl, rfl⟩
theorem GI : ∃ i0, Tryz.prog.info? 67 = some i0 ∧ i0.zero = some (.agg #[(.string ⟨#[]⟩), (.string ⟨#[]⟩), (.int .i64 0)]) ∧ i0.size = 3 ∧ i0.bytes = 40 := by
 obtain ⟨i0, hi, hzz⟩ := Option.map_eq_some_iff.1 JV
 simp only [Prod.mk.injEq] at hzz
 exact ⟨i0, hi, hzz.1, hzz.2.1, hzz.2.2⟩
theorem vS (l : List S67) (i : Nat) (name : ByteArray) : cellsOf (l.take i ++ [(⟨name, ⟨#[]⟩, 0⟩ : S67)]) = (cellsOf l).take (i * 3) ++ [.string name, .string ⟨#[]⟩, .int .i64 0] := by
 rw [pO, jY]
 rfl
theorem TB {w : World} {g i : Nat} {cur : Array Value} {l : List S67} (hh : w.heap[g]? = some (.cells cur 67 (0, 0))) (h6 : cur.toList.take (l.length * 3) = cellsOf l) (hl : l.length ≤ 9223372036854775807) (A' : Option Addr) (hA : i < l.length → A' = some ⟨g, i * 3, none⟩) :
  iV (fun (x : S67) cs => cs = cells3 x) 3 w A' (l.length - i) (l.drop i) := by
 refine ⟨by rw [List.length_drop], by omega, fun h0 => ⟨⟨g, i * 3, none⟩, hA (by omega), fun j p hj => ?_⟩⟩
 rw [List.getElem?_drop] at hj
 obtain ⟨e0, e1, e2⟩ := jB l (i + j) p hj
 refine ⟨cells3 p, rfl, rfl, fun k u hk => ?_⟩
 rw [add_plain', show i * 3 + (j * 3 + k) = (i + j) * 3 + k by omega]
 match k, hk with
 | 0, hk => exact kE hh h6 (by rw [Nat.add_zero, e0]; simpa [cells3] using hk)
 | 1, hk => exact kE hh h6 (by rw [e1]; simpa [cells3] using hk)
 | 2, hk => exact kE hh h6 (by rw [e2]; simpa [cells3] using hk)
 | k + 3, hk => simp [cells3] at hk
theorem WA {xs : List Value} {n j : Nat} {u : Value} (h : (xs.take n)[j]? = some u) : xs[j]? = some u := by
 rw [List.getElem?_take] at h
 split at h
 ·exact h
 ·cases h
theorem vT {B : Nat} {w W : World} (h : Below B w W) (hB : B ≤ W.heap.size) {o : Obj} : Below B w (W.alloc o) := h.alloc hB o
theorem vU {B : Nat} {w W W2 : World} (h : Below B w W) (hg : W.grownBy W2 none) (hB : B ≤ W.heap.size) : Below B w W2 :=
 ⟨hg.os.trans h.os, hg.tape.trans h.tape, hg.output.trans h.output, Nat.le_trans h.size hg.size, fun k hk => (hg.block k (by omega) (by simp)).trans (h.block k hk)⟩
theorem wP {w w2 : World} {o : Obj} {k t : Nat} {cs : Array Value} (h : w.heap[k]? = some (.cells cs t (0, 0))) (hg : (w.alloc o).drew.grownBy w2 none) : w2.heap[k]? = some (.cells cs t (0, 0)) :=
 QZ (bJ (bD h o)) hg (by simp)
theorem oO {w w2 w3 : World} {o : Obj} {k t base : Nat} {cs : Array Value} {v2 : Value} {l2 : List S67} (h : w.heap[k]? = some (.cells cs t (0, 0))) (hg : (w.alloc o).drew.grownBy w2 none) (hR : Kd.R k67 67 w2 base (fun _ => True) v2 l2) (hg3 : w2.grownBy w3 v2.ownBlock) (ht : 67 ≠ t) : w3.heap[k]? = some (.cells cs t (0, 0)) :=
 QZ (wP h hg) hg3 (Kd.qjg hR (wP h hg) ht)
set_option maxHeartbeats 8000000 in
set_option maxRecDepth 100000 in
theorem qbX (gp b1 b2 : Nat) (w : World) (base : Nat) (l : List S67) (name : ByteArray) (A : Option Addr) (c : Nat) (dn : Bool) (fu fa : Int) (i : Nat) (hil : i ≤ l.length) (hn : l.length ≤ 64) (hb1 : w.heap[b1]? = some (.cells #[.pointer (some ⟨gp, 0, none⟩)] 176 (0, 0)))
  (hb2 : w.heap[b2]? = some (.cells #[.string name] 9 (0, 0))) (hp : V9 w base gp (.slice A l.length c) l dn fu fa) (hbase : base ≤ w.heap.size) (qdi : base ≤ gp) :
  Calls Tryz.prog 167 #[.int .i64 (i : Int), .pointer (some ⟨b1, 0, none⟩), .pointer (some ⟨b2, 0, none⟩)] w (Done w base gp dn fu fa (l.take i ++ [(⟨name, ⟨#[]⟩, 0⟩ : S67)] ++ l.drop i)) := by
 obtain ⟨hp, ho⟩ := hp
 obtain ⟨l3, hl3⟩ : ∃ l3, l3 = l.take i ++ [(⟨name, ⟨#[]⟩, 0⟩ : S67)] ++ l.drop i := ⟨_, rfl⟩
 rw [← hl3]
 have HL3 := aA.mk hl3
 clear hl3
 obtain ⟨i0, hi0, hz0, hz1, hz2⟩ := GI
 have HI0 := aA.mk hi0
 have HZ0 := aA.mk hz0
 have HZ1 := aA.mk hz1
 have HZ2 := aA.mk hz2
 clear hi0 hz0 hz1 hz2
 have hcl : l.length ≤ c := by
  obtain ⟨A', c', he, hl, _⟩ := Kd.F5 ho
  injection he with _ _ e3
  omega
 have s1 : w.cell? ⟨b1, 0, none⟩ = some (.pointer (some ⟨gp, 0, none⟩)) := (aG hb1 0).trans rfl
 have s2 : w.cell? ⟨gp, 0, none⟩ = some (.slice A l.length c) := (aG hp 0).trans rfl
 have s3 : w.cell? ⟨b2, 0, none⟩ = some (.string name) := (aG hb2 0).trans rfl
 have HO := aA.mk ho
 have HP := aA.mk hp
 have HB1 := aA.mk hb1
 have HB2 := aA.mk hb2
 have q0 : (0 : Int) ≤ (i : Int) := by omega
 have q1 : (i : Int) ≤ (l.length : Int) := by omega
 have q2 : i ≤ c := by omega
 clear ho hp hb1 hb2
 obtain ⟨_, hA | ⟨g, cap, cur, he, hbg, hh, h3, h4, h5, h6⟩⟩ := sJ HO.out
 ·obtain ⟨rfl, hl0⟩ : A = none ∧ c = 0 := by
   obtain ⟨h, _⟩ := hA
   injection h with e1 e2 e3
   exact ⟨e1, e3⟩
  have hc0 : c ≤ 0 := by omega
  have hcm : c ≤ 9223372036854775807 := by omega
  clear hl0 hA
  go_enter Tryz.func167, Tryz.ntmps167
  go_wp2
  refine gK (n := 19) (S := fun w' => w'.cell? ⟨b1, 0, none⟩ = some (.pointer (some ⟨gp, 0, none⟩)) ∧ w'.cell? ⟨b2, 0, none⟩ = some (.string name) ∧ w'.cell? ⟨gp, 0, none⟩ = some (.slice none l.length c)) (ds := [18]) #[false, false, false, false, false, false, false, false, false, false, false, false, false, false, false, false, false, false, false] (by kernel_rfl) rfl rfl ⟨s1, s3, s2⟩ (fun hHeld => ?_)
  refine aQ (i := 6) (N := some 18) (v := ?_) (a' := ?_) #[false, false, false, false, false, false, true, false, false, false, false, false, false, false, false, false, false, false, false] rfl rfl (by kernel_rfl) (fun _ _ _ h => h) (Or.inl ⟨by rfl, ?_⟩) ?_ ?_
  rotate_left
  ·intro w'
   go_simp
   with_reducible rfl
  rotate_left
  ·simp only [Act.put, zA, zZ, zS, aI, aJ]
   rfl
  refine aQ (i := 7) (N := some 19) (v := ?_) (a' := ?_) #[false, false, false, false, false, false, true, true, false, false, false, false, false, false, false, false, false, false, false] rfl rfl (by kernel_rfl) (fun _ _ _ h => h) (Or.inl ⟨by rfl, ?_⟩) ?_ ?_
  rotate_left
  ·intro w'
   go_simp
   with_reducible rfl
  rotate_left
  ·simp only [Act.put, zA, zZ, zS, aI, aJ]
   rfl
  refine aQ (i := 13) (N := some 25) (v := ?_) (a' := ?_) #[false, false, false, false, false, false, true, true, false, false, false, false, false, true, false, false, false, false, false] rfl rfl (by kernel_rfl) (fun _ _ _ h => h) (Or.inl ⟨by rfl, ?_⟩) ?_ ?_
  rotate_left
  ·intro w'
   go_simp
   with_reducible rfl
  rotate_left
  ·simp only [Act.put, zA, zZ, zS, aI, aJ]
   rfl
  refine dD (i := 0) (N := some 12) (v := ?_) (a' := ?_) #[true, false, false, false, false, false, true, true, false, false, false, false, false, true, false, false, false, false, false] rfl rfl (by kernel_rfl) (fun _ _ _ h => h) (Or.inl ⟨by rfl, ?_⟩) hHeld ?_ ?_
  rotate_left
  ·rintro w' ⟨s0, s1, s2⟩
   go_simp
   with_reducible rfl
  rotate_left
  ·simp only [Act.put, zA, zZ, zS, aI, aJ]
   rfl
  refine dD (i := 1) (N := some 13) (v := ?_) (a' := ?_) #[true, true, false, false, false, false, true, true, false, false, false, false, false, true, false, false, false, false, false] rfl rfl (by kernel_rfl) (fun _ _ _ h => h) (Or.inl ⟨by rfl, ?_⟩) hHeld ?_ ?_
  rotate_left
  ·rintro w' ⟨s0, s1, s2⟩
   go_simp
   with_reducible rfl
  rotate_left
  ·simp only [Act.put, zA, zZ, zS, aI, aJ]
   rfl
  refine aQ (i := 2) (N := some 14) (v := ?_) (a' := ?_) #[true, true, true, false, false, false, true, true, false, false, false, false, false, true, false, false, false, false, false] rfl rfl (by kernel_rfl) (fun _ _ _ h => h) (Or.inl ⟨by rfl, ?_⟩) ?_ ?_
  rotate_left
  ·intro w'
   go_simp
   with_reducible rfl
  rotate_left
  ·simp only [Act.put, zA, zZ, zS, aI, aJ]
   rfl
  refine aQ (i := 3) (N := some 15) (v := ?_) (a' := ?_) #[true, true, true, true, false, false, true, true, false, false, false, false, false, true, false, false, false, false, false] rfl rfl (by kernel_rfl) (fun _ _ _ h => h) (Or.inl ⟨by rfl, ?_⟩) ?_ ?_
  rotate_left
  ·intro w'
   go_simp
   with_reducible rfl
  rotate_left
  ·simp only [Act.put, zA, zZ, zS, aI, aJ]
   rfl
  refine aQ (i := 4) (N := some 16) (v := ?_) (a' := ?_) #[true, true, true, true, true, false, true, true, false, false, false, false, false, true, false, false, false, false, false] rfl rfl (by kernel_rfl) (fun _ _ _ h => h) (Or.inl ⟨by rfl, ?_⟩) ?_ ?_
  rotate_left
  ·intro w'
   go_simp
   with_reducible rfl
  rotate_left
  ·simp only [Act.put, zA, zZ, zS, aI, aJ]
   rfl
  refine dD (i := 5) (N := some 17) (v := ?_) (a' := ?_) #[true, true, true, true, true, true, true, true, false, false, false, false, false, true, false, false, false, false, false] rfl rfl (by kernel_rfl) (fun _ _ _ h => h) (Or.inl ⟨by rfl, ?_⟩) hHeld ?_ ?_
  rotate_left
  ·rintro w' ⟨s0, s1, s2⟩
   go_simp
   with_reducible rfl
  rotate_left
  ·simp only [Act.put, zA, zZ, zS, aI, aJ]
   rfl
  refine aQ (i := 8) (N := some 20) (v := ?_) (a' := ?_) #[true, true, true, true, true, true, true, true, true, false, false, false, false, true, false, false, false, false, false] rfl rfl (by kernel_rfl) (fun _ _ _ h => h) (Or.inl ⟨by rfl, ?_⟩) ?_ ?_
  rotate_left
  ·intro w'
   go_simp
   with_reducible rfl
  rotate_left
  ·simp only [Act.put, zA, zZ, zS, aI, aJ]
   rfl
  refine dD (i := 9) (N := some 21) (v := ?_) (a' := ?_) #[true, true, true, true, true, true, true, true, true, true, false, false, false, true, false, false, false, false, false] rfl rfl (by kernel_rfl) (fun _ _ _ h => h) (Or.inl ⟨by rfl, ?_⟩) hHeld ?_ ?_
  rotate_left
  ·rintro w' ⟨s0, s1, s2⟩
   go_simp
   with_reducible rfl
  rotate_left
  ·simp only [Act.put, zA, zZ, zS, aI, aJ]
   rfl
  refine aQ (i := 10) (N := some 22) (v := ?_) (a' := ?_) #[true, true, true, true, true, true, true, true, true, true, true, false, false, true, false, false, false, false, false] rfl rfl (by kernel_rfl) (fun _ _ _ h => h) (Or.inl ⟨by rfl, ?_⟩) ?_ ?_
  rotate_left
  ·intro w'
   go_simp
   with_reducible rfl
  rotate_left
  ·simp only [Act.put, zA, zZ, zS, aI, aJ]
   rfl
  refine lX (i := 11) (N := some 23) #[true, true, true, true, true, true, true, true, true, true, true, true, false, true, false, false, false, false, false] rfl rfl (by kernel_rfl) (by decide) (fun K hK => ?_)
  refine N7 (w1 := ?_) (v := ?_) (by rfl) rfl ?_ ?_
  rotate_left 2
  ·go_simp
   constructor
   ·rfl
   ·rfl
  refine hK.out _ _ ⟨((aG (bD HB1.out _) 0).trans rfl), ((aG (bD HB2.out _) 0).trans rfl), ((aG (bD HP.out _) 0).trans rfl)⟩ (fun hHeld => ?_)
  clear hK K
  refine fO (a' := ?_) ?_ ?_
  rotate_left
  ·show Act.put _ (some 23) _ = _
   simp only [Act.put, zA, zZ, zS, aI, aJ]
   rfl
  refine lX (i := 12) (N := some 24) #[true, true, true, true, true, true, true, true, true, true, true, true, true, true, false, false, false, false, false] rfl rfl (by kernel_rfl) (by decide) (fun K hK => ?_)
  refine step_append_grows rfl (.tmp 20) (.tmp 23) 25 rfl 67 i0 _ 3 40 Tryz.underlying25 HI0.out HZ0.out HZ1.out HZ2.out rfl (by decide) none i i ((cellsOf l).take (i * 3)) rfl (fun _ => ⟨by omega, by omega⟩) ?lon ?qgD ⟨w.heap.size, 0, none⟩ 1 1 [.string name, .string ⟨#[]⟩, .int .i64 0] rfl rfl ?qgE ?qjl (by omega) (by unfold maxLen; omega) (by omega) ?_
  case lon => rw [List.length_take, cellsOf_length]; omega
  case qgD => intro b hb; cases hb
  case qgE =>
   intro j u hj
   match j, hj with
   | 0, hj => simp at hj; subst hj; rw [add_plain]; exact (aG (kJ w _) 0).trans rfl
   | 1, hj => simp at hj; subst hj; rw [add_plain]; exact (aG (kJ w _) 1).trans rfl
   | 2, hj => simp at hj; subst hj; rw [add_plain]; exact (aG (kJ w _) 2).trans rfl
   | j + 3, hj => simp at hj
  case qjl => intro u hu; simp at hu; rcases hu with rfl | rfl | rfl <;> rfl
  intro v2 w2 hown hgr
  rw [← vS l i name] at hown
  have hR2 : Kd.R k67 67 w2 base (fun _ => True) v2 (l.take i ++ [(⟨name, ⟨#[]⟩, 0⟩ : S67)]) := oL (by
   have hlen : (l.take i ++ [(⟨name, ⟨#[]⟩, 0⟩ : S67)]).length = i + 1 := by rw [List.length_append, List.length_take, List.length_singleton]; omega
   rw [hlen]
   exact vK hown (by simp; omega))
  have HO2 := aA.mk hR2
  have HG2 := aA.mk hgr
  clear hown hgr hR2
  refine hK.out _ _ ⟨((aG (wP HB1.out HG2.out) 0).trans rfl), ((aG (wP HB2.out HG2.out) 0).trans rfl), ((aG (wP HP.out HG2.out) 0).trans rfl)⟩ (fun hHeld => ?_)
  clear hK K
  refine fO (a' := ?_) ?_ ?_
  rotate_left
  ·show Act.put _ (some 24) _ = _
   simp only [Act.put, zA, zZ, zS, aI, aJ]
   rfl
  refine lX (i := 14) (N := some 26) #[true, true, true, true, true, true, true, true, true, true, true, true, true, true, true, false, false, false, false] rfl rfl (by kernel_rfl) (by decide) (fun K hK => ?_)
  refine Kd.kW k67 (w0 := w) (Rr := fun (x : S67) cs => cs = cells3 x) base (by rfl) (.tmp 24) (.tmp 25) 25 67 (.agg #[(.string ⟨#[]⟩), (.string ⟨#[]⟩), (.int .i64 0)]) 40 rfl Tryz.underlying25 JV rfl (by decide) (by omega) v2 _ (l.drop i) none (l.length - i) (c - i) (fun _ => True) (fun _ => False) rfl rfl HO2.out ?rdn (fun x cs h => by subst h; exact yI _ _ _ x) (fun _ h => h.elim) (fun _ _ => trivial) ?qjm ?bsn ?bln ?_
  case rdn => exact ⟨by rw [List.length_drop], by omega, fun h => absurd h (by omega)⟩
  case qjm => exact vU (fE (vT (Below.refl base w) hbase)) HG2.out (by simp; omega)
  case bsn => have := HG2.out.size; simp at this; omega
  case bln => rw [List.length_append, List.length_take, List.length_singleton]; omega
  intro v3 w3 ho3 hb3 hg3 _
  rw [← HL3.out] at ho3
  obtain ⟨A9, c9, rfl⟩ := Kd.dU ho3
  have HO3 := aA.mk ho3
  have HB3 := aA.mk hb3
  have HG3 := aA.mk hg3
  clear ho3 hb3 hg3
  have hfr := aC (oO HP.out HG2.out HO2.out HG3.out (by decide)) 0
  refine hK.out _ _ ⟨((aG (oO HB1.out HG2.out HO2.out HG3.out (by decide)) 0).trans rfl), ((aG (oO HB2.out HG2.out HO2.out HG3.out (by decide)) 0).trans rfl), ((aG (oO HP.out HG2.out HO2.out HG3.out (by decide)) 0).trans rfl)⟩ (fun hHeld => ?_)
  clear hK K
  refine fO (a' := ?_) ?_ ?_
  rotate_left
  ·show Act.put _ (some 26) _ = _
   simp only [Act.put, zA, zZ, zS, aI, aJ]
   rfl
  refine aQ (i := 15) (N := some 27) (v := ?_) (a' := ?_) #[true, true, true, true, true, true, true, true, true, true, true, true, true, true, true, true, false, false, false] rfl rfl (by kernel_rfl) (fun _ _ _ h => h) (Or.inl ⟨by rfl, ?_⟩) ?_ ?_
  rotate_left
  ·intro w'
   go_simp
   with_reducible rfl
  rotate_left
  ·simp only [Act.put, zA, zZ, zS, aI, aJ]
   rfl
  refine aQ (i := 16) (N := some 28) (v := ?_) (a' := ?_) #[true, true, true, true, true, true, true, true, true, true, true, true, true, true, true, true, true, false, false] rfl rfl (by kernel_rfl) (fun _ _ _ h => h) (Or.inl ⟨by rfl, ?_⟩) ?_ ?_
  rotate_left
  ·intro w'
   go_simp
   with_reducible rfl
  rotate_left
  ·simp only [Act.put, zA, zZ, zS, aI, aJ]
   rfl
  refine aQ (i := 17) (N := some 29) (v := ?_) (a' := ?_) #[true, true, true, true, true, true, true, true, true, true, true, true, true, true, true, true, true, true, false] rfl rfl (by kernel_rfl) (fun _ _ _ h => h) (Or.inl ⟨by rfl, ?_⟩) ?_ ?_
  rotate_left
  ·intro w'
   go_simp
   with_reducible rfl
  rotate_left
  ·simp only [Act.put, zA, zZ, zS, aI, aJ]
   rfl
  refine o7 (i := 18) (N := none) #[true, true, true, true, true, true, true, true, true, true, true, true, true, true, true, true, true, true, true] rfl rfl (by kernel_rfl) (by decide) (fun K hK => ?_)
  refine wU (w1 := ?_) (by rfl) rfl ?_ ?_
  rotate_left
  ·go_simp
   rfl
  refine hK.out _ _ ?_
  clear hK K
  refine jR (by kernel_rfl) ?_
  go_end0
  refine ⟨rfl, _, fQ (cs := #[.slice none l.length c, .bool dn, .int .i64 fu, .int .i64 fa]) (oO HP.out HG2.out HO2.out HG3.out (by decide)) 0 _ rfl, ?_, HB3.out.setCell ?_ _, fun k cs h => ?_⟩
  ·exact R1 (j := 0) HO3.out (oO HP.out HG2.out HO2.out HG3.out (by decide)) (by decide) _
  ·exact qdi
  ·exact dB (p := ⟨gp, 0, none⟩) (oO h HG2.out HO2.out HG3.out (by decide)) (fU h HP.out (by decide)) _
 ·injection he with e1 e2 e3
  subst e1 e3
  have HH := aA.mk hh
  have H6 := aA.mk h6
  have hcm : c ≤ 9223372036854775807 := by unfold maxLen at h4; omega
  clear hh h6 h4 h5
  by_cases hci : c = i
  ·have qjn : i = c := hci.symm
   clear hci
   subst qjn
   go_enter Tryz.func167, Tryz.ntmps167
   go_wp2
   refine gK (n := 19) (S := fun w' => w'.cell? ⟨b1, 0, none⟩ = some (.pointer (some ⟨gp, 0, none⟩)) ∧ w'.cell? ⟨b2, 0, none⟩ = some (.string name) ∧ w'.cell? ⟨gp, 0, none⟩ = some (.slice (some ⟨g, 0, none⟩) l.length i)) (ds := [18]) #[false, false, false, false, false, false, false, false, false, false, false, false, false, false, false, false, false, false, false] (by kernel_rfl) rfl rfl ⟨s1, s3, s2⟩ (fun hHeld => ?_)
   refine aQ (i := 6) (N := some 18) (v := ?_) (a' := ?_) #[false, false, false, false, false, false, true, false, false, false, false, false, false, false, false, false, false, false, false] rfl rfl (by kernel_rfl) (fun _ _ _ h => h) (Or.inl ⟨by rfl, ?_⟩) ?_ ?_
   rotate_left
   ·intro w'
    go_simp
    with_reducible rfl
   rotate_left
   ·simp only [Act.put, zA, zZ, zS, aI, aJ]
    rfl
   refine aQ (i := 7) (N := some 19) (v := ?_) (a' := ?_) #[false, false, false, false, false, false, true, true, false, false, false, false, false, false, false, false, false, false, false] rfl rfl (by kernel_rfl) (fun _ _ _ h => h) (Or.inl ⟨by rfl, ?_⟩) ?_ ?_
   rotate_left
   ·intro w'
    go_simp
    with_reducible rfl
   rotate_left
   ·simp only [Act.put, zA, zZ, zS, aI, aJ]
    rfl
   refine aQ (i := 13) (N := some 25) (v := ?_) (a' := ?_) #[false, false, false, false, false, false, true, true, false, false, false, false, false, true, false, false, false, false, false] rfl rfl (by kernel_rfl) (fun _ _ _ h => h) (Or.inl ⟨by rfl, ?_⟩) ?_ ?_
   rotate_left
   ·intro w'
    go_simp
    with_reducible rfl
   rotate_left
   ·simp only [Act.put, zA, zZ, zS, aI, aJ]
    rfl
   refine dD (i := 0) (N := some 12) (v := ?_) (a' := ?_) #[true, false, false, false, false, false, true, true, false, false, false, false, false, true, false, false, false, false, false] rfl rfl (by kernel_rfl) (fun _ _ _ h => h) (Or.inl ⟨by rfl, ?_⟩) hHeld ?_ ?_
   rotate_left
   ·rintro w' ⟨s0, s1, s2⟩
    go_simp
    with_reducible rfl
   rotate_left
   ·simp only [Act.put, zA, zZ, zS, aI, aJ]
    rfl
   refine dD (i := 1) (N := some 13) (v := ?_) (a' := ?_) #[true, true, false, false, false, false, true, true, false, false, false, false, false, true, false, false, false, false, false] rfl rfl (by kernel_rfl) (fun _ _ _ h => h) (Or.inl ⟨by rfl, ?_⟩) hHeld ?_ ?_
   rotate_left
   ·rintro w' ⟨s0, s1, s2⟩
    go_simp
    with_reducible rfl
   rotate_left
   ·simp only [Act.put, zA, zZ, zS, aI, aJ]
    rfl
   refine aQ (i := 2) (N := some 14) (v := ?_) (a' := ?_) #[true, true, true, false, false, false, true, true, false, false, false, false, false, true, false, false, false, false, false] rfl rfl (by kernel_rfl) (fun _ _ _ h => h) (Or.inl ⟨by rfl, ?_⟩) ?_ ?_
   rotate_left
   ·intro w'
    go_simp
    with_reducible rfl
   rotate_left
   ·simp only [Act.put, zA, zZ, zS, aI, aJ]
    rfl
   refine aQ (i := 3) (N := some 15) (v := ?_) (a' := ?_) #[true, true, true, true, false, false, true, true, false, false, false, false, false, true, false, false, false, false, false] rfl rfl (by kernel_rfl) (fun _ _ _ h => h) (Or.inl ⟨by rfl, ?_⟩) ?_ ?_
   rotate_left
   ·intro w'
    go_simp
    with_reducible rfl
   rotate_left
   ·simp only [Act.put, zA, zZ, zS, aI, aJ]
    rfl
   refine aQ (i := 4) (N := some 16) (v := ?_) (a' := ?_) #[true, true, true, true, true, false, true, true, false, false, false, false, false, true, false, false, false, false, false] rfl rfl (by kernel_rfl) (fun _ _ _ h => h) (Or.inl ⟨by rfl, ?_⟩) ?_ ?_
   rotate_left
   ·intro w'
    go_simp
    with_reducible rfl
   rotate_left
   ·simp only [Act.put, zA, zZ, zS, aI, aJ]
    rfl
   refine dD (i := 5) (N := some 17) (v := ?_) (a' := ?_) #[true, true, true, true, true, true, true, true, false, false, false, false, false, true, false, false, false, false, false] rfl rfl (by kernel_rfl) (fun _ _ _ h => h) (Or.inl ⟨by rfl, ?_⟩) hHeld ?_ ?_
   rotate_left
   ·rintro w' ⟨s0, s1, s2⟩
    go_simp
    with_reducible rfl
   rotate_left
   ·simp only [Act.put, zA, zZ, zS, aI, aJ]
    rfl
   refine aQ (i := 8) (N := some 20) (v := ?_) (a' := ?_) #[true, true, true, true, true, true, true, true, true, false, false, false, false, true, false, false, false, false, false] rfl rfl (by kernel_rfl) (fun _ _ _ h => h) (Or.inl ⟨by rfl, ?_⟩) ?_ ?_
   rotate_left
   ·intro w'
    go_simp
    with_reducible rfl
   rotate_left
   ·simp only [Act.put, zA, zZ, zS, aI, aJ]
    rfl
   refine dD (i := 9) (N := some 21) (v := ?_) (a' := ?_) #[true, true, true, true, true, true, true, true, true, true, false, false, false, true, false, false, false, false, false] rfl rfl (by kernel_rfl) (fun _ _ _ h => h) (Or.inl ⟨by rfl, ?_⟩) hHeld ?_ ?_
   rotate_left
   ·rintro w' ⟨s0, s1, s2⟩
    go_simp
    with_reducible rfl
   rotate_left
   ·simp only [Act.put, zA, zZ, zS, aI, aJ]
    rfl
   refine aQ (i := 10) (N := some 22) (v := ?_) (a' := ?_) #[true, true, true, true, true, true, true, true, true, true, true, false, false, true, false, false, false, false, false] rfl rfl (by kernel_rfl) (fun _ _ _ h => h) (Or.inl ⟨by rfl, ?_⟩) ?_ ?_
   rotate_left
   ·intro w'
    go_simp
    with_reducible rfl
   rotate_left
   ·simp only [Act.put, zA, zZ, zS, aI, aJ]
    rfl
   refine lX (i := 11) (N := some 23) #[true, true, true, true, true, true, true, true, true, true, true, true, false, true, false, false, false, false, false] rfl rfl (by kernel_rfl) (by decide) (fun K hK => ?_)
   refine N7 (w1 := ?_) (v := ?_) (by rfl) rfl ?_ ?_
   rotate_left 2
   ·go_simp
    constructor
    ·rfl
    ·rfl
   refine hK.out _ _ ⟨((aG (bD HB1.out _) 0).trans rfl), ((aG (bD HB2.out _) 0).trans rfl), ((aG (bD HP.out _) 0).trans rfl)⟩ (fun hHeld => ?_)
   clear hK K
   refine fO (a' := ?_) ?_ ?_
   rotate_left
   ·show Act.put _ (some 23) _ = _
    simp only [Act.put, zA, zZ, zS, aI, aJ]
    rfl
   refine lX (i := 12) (N := some 24) #[true, true, true, true, true, true, true, true, true, true, true, true, true, true, false, false, false, false, false] rfl rfl (by kernel_rfl) (by decide) (fun K hK => ?_)
   refine step_append_grows rfl (.tmp 20) (.tmp 23) 25 rfl 67 i0 _ 3 40 Tryz.underlying25 HI0.out HZ0.out HZ1.out HZ2.out rfl (by decide) (some ⟨g, 0, none⟩) i i ((cellsOf l).take (i * 3)) rfl (fun h => by cases h) ?loe ?qgF ⟨w.heap.size, 0, none⟩ 1 1 [.string name, .string ⟨#[]⟩, .int .i64 0] rfl rfl ?qgG ?qjo (by omega) (by unfold maxLen; omega) (by omega) ?_
   case loe => rw [List.length_take, cellsOf_length]; omega
   case qgF => intro b hb j u hj; injection hb with hb; subst hb; rw [add_plain]; exact kE (bD HH.out _) H6.out (WA hj)
   case qgG =>
    intro j u hj
    match j, hj with
    | 0, hj => simp at hj; subst hj; rw [add_plain]; exact (aG (kJ w _) 0).trans rfl
    | 1, hj => simp at hj; subst hj; rw [add_plain]; exact (aG (kJ w _) 1).trans rfl
    | 2, hj => simp at hj; subst hj; rw [add_plain]; exact (aG (kJ w _) 2).trans rfl
    | j + 3, hj => simp at hj
   case qjo => intro u hu; simp at hu; rcases hu with rfl | rfl | rfl <;> rfl
   intro v2 w2 hown hgr
   rw [← vS l i name] at hown
   have hR2 : Kd.R k67 67 w2 base (fun _ => True) v2 (l.take i ++ [(⟨name, ⟨#[]⟩, 0⟩ : S67)]) := oL (by
    have hlen : (l.take i ++ [(⟨name, ⟨#[]⟩, 0⟩ : S67)]).length = i + 1 := by rw [List.length_append, List.length_take, List.length_singleton]; omega
    rw [hlen]
    exact vK hown (by simp; omega))
   have HO2 := aA.mk hR2
   have HG2 := aA.mk hgr
   clear hown hgr hR2
   refine hK.out _ _ ⟨((aG (wP HB1.out HG2.out) 0).trans rfl), ((aG (wP HB2.out HG2.out) 0).trans rfl), ((aG (wP HP.out HG2.out) 0).trans rfl)⟩ (fun hHeld => ?_)
   clear hK K
   refine fO (a' := ?_) ?_ ?_
   rotate_left
   ·show Act.put _ (some 24) _ = _
    simp only [Act.put, zA, zZ, zS, aI, aJ]
    rfl
   refine lX (i := 14) (N := some 26) #[true, true, true, true, true, true, true, true, true, true, true, true, true, true, true, false, false, false, false] rfl rfl (by kernel_rfl) (by decide) (fun K hK => ?_)
   refine Kd.kW k67 (w0 := w) (Rr := fun (x : S67) cs => cs = cells3 x) base (by rfl) (.tmp 24) (.tmp 25) 25 67 (.agg #[(.string ⟨#[]⟩), (.string ⟨#[]⟩), (.int .i64 0)]) 40 rfl Tryz.underlying25 JV rfl (by decide) (by omega) v2 _ (l.drop i) (some ⟨g, 0, none⟩) 0 0 (fun _ => True) (fun _ => False) rfl rfl HO2.out ?rde (fun x cs h => by subst h; exact yI _ _ _ x) (fun _ h => h.elim) (fun _ _ => trivial) ?qjp ?bse ?ble ?_
   case rde => exact ⟨by rw [List.length_drop]; omega, by omega, fun h => absurd h (by omega)⟩
   case qjp => exact vU (fE (vT (Below.refl base w) hbase)) HG2.out (by simp; omega)
   case bse => have := HG2.out.size; simp at this; omega
   case ble => rw [List.length_append, List.length_take, List.length_singleton]; omega
   intro v3 w3 ho3 hb3 hg3 _
   rw [← HL3.out] at ho3
   obtain ⟨A9, c9, rfl⟩ := Kd.dU ho3
   have HO3 := aA.mk ho3
   have HB3 := aA.mk hb3
   have HG3 := aA.mk hg3
   clear ho3 hb3 hg3
   have hfr := aC (oO HP.out HG2.out HO2.out HG3.out (by decide)) 0
   refine hK.out _ _ ⟨((aG (oO HB1.out HG2.out HO2.out HG3.out (by decide)) 0).trans rfl), ((aG (oO HB2.out HG2.out HO2.out HG3.out (by decide)) 0).trans rfl), ((aG (oO HP.out HG2.out HO2.out HG3.out (by decide)) 0).trans rfl)⟩ (fun hHeld => ?_)
   clear hK K
   refine fO (a' := ?_) ?_ ?_
   rotate_left
   ·show Act.put _ (some 26) _ = _
    simp only [Act.put, zA, zZ, zS, aI, aJ]
    rfl
   refine aQ (i := 15) (N := some 27) (v := ?_) (a' := ?_) #[true, true, true, true, true, true, true, true, true, true, true, true, true, true, true, true, false, false, false] rfl rfl (by kernel_rfl) (fun _ _ _ h => h) (Or.inl ⟨by rfl, ?_⟩) ?_ ?_
   rotate_left
   ·intro w'
    go_simp
    with_reducible rfl
   rotate_left
   ·simp only [Act.put, zA, zZ, zS, aI, aJ]
    rfl
   refine aQ (i := 16) (N := some 28) (v := ?_) (a' := ?_) #[true, true, true, true, true, true, true, true, true, true, true, true, true, true, true, true, true, false, false] rfl rfl (by kernel_rfl) (fun _ _ _ h => h) (Or.inl ⟨by rfl, ?_⟩) ?_ ?_
   rotate_left
   ·intro w'
    go_simp
    with_reducible rfl
   rotate_left
   ·simp only [Act.put, zA, zZ, zS, aI, aJ]
    rfl
   refine aQ (i := 17) (N := some 29) (v := ?_) (a' := ?_) #[true, true, true, true, true, true, true, true, true, true, true, true, true, true, true, true, true, true, false] rfl rfl (by kernel_rfl) (fun _ _ _ h => h) (Or.inl ⟨by rfl, ?_⟩) ?_ ?_
   rotate_left
   ·intro w'
    go_simp
    with_reducible rfl
   rotate_left
   ·simp only [Act.put, zA, zZ, zS, aI, aJ]
    rfl
   refine o7 (i := 18) (N := none) #[true, true, true, true, true, true, true, true, true, true, true, true, true, true, true, true, true, true, true] rfl rfl (by kernel_rfl) (by decide) (fun K hK => ?_)
   refine wU (w1 := ?_) (by rfl) rfl ?_ ?_
   rotate_left
   ·go_simp
    rfl
   refine hK.out _ _ ?_
   clear hK K
   refine jR (by kernel_rfl) ?_
   go_end0
   refine ⟨rfl, _, fQ (cs := #[.slice (some ⟨g, 0, none⟩) l.length i, .bool dn, .int .i64 fu, .int .i64 fa]) (oO HP.out HG2.out HO2.out HG3.out (by decide)) 0 _ rfl, ?_, HB3.out.setCell ?_ _, fun k cs h => ?_⟩
   ·exact R1 (j := 0) HO3.out (oO HP.out HG2.out HO2.out HG3.out (by decide)) (by decide) _
   ·exact qdi
   ·exact dB (p := ⟨gp, 0, none⟩) (oO h HG2.out HO2.out HG3.out (by decide)) (fU h HP.out (by decide)) _
  ·go_enter Tryz.func167, Tryz.ntmps167
   go_wp2
   refine gK (n := 19) (S := fun w' => w'.cell? ⟨b1, 0, none⟩ = some (.pointer (some ⟨gp, 0, none⟩)) ∧ w'.cell? ⟨b2, 0, none⟩ = some (.string name) ∧ w'.cell? ⟨gp, 0, none⟩ = some (.slice (some ⟨g, 0, none⟩) l.length c)) (ds := [18]) #[false, false, false, false, false, false, false, false, false, false, false, false, false, false, false, false, false, false, false] (by kernel_rfl) rfl rfl ⟨s1, s3, s2⟩ (fun hHeld => ?_)
   refine aQ (i := 6) (N := some 18) (v := ?_) (a' := ?_) #[false, false, false, false, false, false, true, false, false, false, false, false, false, false, false, false, false, false, false] rfl rfl (by kernel_rfl) (fun _ _ _ h => h) (Or.inl ⟨by rfl, ?_⟩) ?_ ?_
   rotate_left
   ·intro w'
    go_simp
    with_reducible rfl
   rotate_left
   ·simp only [Act.put, zA, zZ, zS, aI, aJ]
    rfl
   refine aQ (i := 7) (N := some 19) (v := ?_) (a' := ?_) #[false, false, false, false, false, false, true, true, false, false, false, false, false, false, false, false, false, false, false] rfl rfl (by kernel_rfl) (fun _ _ _ h => h) (Or.inl ⟨by rfl, ?_⟩) ?_ ?_
   rotate_left
   ·intro w'
    go_simp
    with_reducible rfl
   rotate_left
   ·simp only [Act.put, zA, zZ, zS, aI, aJ]
    rfl
   refine aQ (i := 13) (N := some 25) (v := ?_) (a' := ?_) #[false, false, false, false, false, false, true, true, false, false, false, false, false, true, false, false, false, false, false] rfl rfl (by kernel_rfl) (fun _ _ _ h => h) (Or.inl ⟨by rfl, ?_⟩) ?_ ?_
   rotate_left
   ·intro w'
    go_simp
    with_reducible rfl
   rotate_left
   ·simp only [Act.put, zA, zZ, zS, aI, aJ]
    rfl
   refine dD (i := 0) (N := some 12) (v := ?_) (a' := ?_) #[true, false, false, false, false, false, true, true, false, false, false, false, false, true, false, false, false, false, false] rfl rfl (by kernel_rfl) (fun _ _ _ h => h) (Or.inl ⟨by rfl, ?_⟩) hHeld ?_ ?_
   rotate_left
   ·rintro w' ⟨s0, s1, s2⟩
    go_simp
    with_reducible rfl
   rotate_left
   ·simp only [Act.put, zA, zZ, zS, aI, aJ]
    rfl
   refine dD (i := 1) (N := some 13) (v := ?_) (a' := ?_) #[true, true, false, false, false, false, true, true, false, false, false, false, false, true, false, false, false, false, false] rfl rfl (by kernel_rfl) (fun _ _ _ h => h) (Or.inl ⟨by rfl, ?_⟩) hHeld ?_ ?_
   rotate_left
   ·rintro w' ⟨s0, s1, s2⟩
    go_simp
    with_reducible rfl
   rotate_left
   ·simp only [Act.put, zA, zZ, zS, aI, aJ]
    rfl
   refine aQ (i := 2) (N := some 14) (v := ?_) (a' := ?_) #[true, true, true, false, false, false, true, true, false, false, false, false, false, true, false, false, false, false, false] rfl rfl (by kernel_rfl) (fun _ _ _ h => h) (Or.inl ⟨by rfl, ?_⟩) ?_ ?_
   rotate_left
   ·intro w'
    go_simp
    with_reducible rfl
   rotate_left
   ·simp only [Act.put, zA, zZ, zS, aI, aJ]
    rfl
   refine aQ (i := 3) (N := some 15) (v := ?_) (a' := ?_) #[true, true, true, true, false, false, true, true, false, false, false, false, false, true, false, false, false, false, false] rfl rfl (by kernel_rfl) (fun _ _ _ h => h) (Or.inl ⟨by rfl, ?_⟩) ?_ ?_
   rotate_left
   ·intro w'
    go_simp
    with_reducible rfl
   rotate_left
   ·simp only [Act.put, zA, zZ, zS, aI, aJ]
    rfl
   refine aQ (i := 4) (N := some 16) (v := ?_) (a' := ?_) #[true, true, true, true, true, false, true, true, false, false, false, false, false, true, false, false, false, false, false] rfl rfl (by kernel_rfl) (fun _ _ _ h => h) (Or.inl ⟨by rfl, ?_⟩) ?_ ?_
   rotate_left
   ·intro w'
    go_simp
    with_reducible rfl
   rotate_left
   ·simp only [Act.put, zA, zZ, zS, aI, aJ]
    rfl
   refine dD (i := 5) (N := some 17) (v := ?_) (a' := ?_) #[true, true, true, true, true, true, true, true, false, false, false, false, false, true, false, false, false, false, false] rfl rfl (by kernel_rfl) (fun _ _ _ h => h) (Or.inl ⟨by rfl, ?_⟩) hHeld ?_ ?_
   rotate_left
   ·rintro w' ⟨s0, s1, s2⟩
    go_simp
    with_reducible rfl
   rotate_left
   ·simp only [Act.put, zA, zZ, zS, aI, aJ]
    rfl
   refine aQ (i := 8) (N := some 20) (v := ?_) (a' := ?_) #[true, true, true, true, true, true, true, true, true, false, false, false, false, true, false, false, false, false, false] rfl rfl (by kernel_rfl) (fun _ _ _ h => h) (Or.inl ⟨by rfl, ?_⟩) ?_ ?_
   rotate_left
   ·intro w'
    go_simp
    with_reducible rfl
   rotate_left
   ·simp only [Act.put, zA, zZ, zS, aI, aJ]
    rfl
   refine dD (i := 9) (N := some 21) (v := ?_) (a' := ?_) #[true, true, true, true, true, true, true, true, true, true, false, false, false, true, false, false, false, false, false] rfl rfl (by kernel_rfl) (fun _ _ _ h => h) (Or.inl ⟨by rfl, ?_⟩) hHeld ?_ ?_
   rotate_left
   ·rintro w' ⟨s0, s1, s2⟩
    go_simp
    with_reducible rfl
   rotate_left
   ·simp only [Act.put, zA, zZ, zS, aI, aJ]
    rfl
   refine aQ (i := 10) (N := some 22) (v := ?_) (a' := ?_) #[true, true, true, true, true, true, true, true, true, true, true, false, false, true, false, false, false, false, false] rfl rfl (by kernel_rfl) (fun _ _ _ h => h) (Or.inl ⟨by rfl, ?_⟩) ?_ ?_
   rotate_left
   ·intro w'
    go_simp
    with_reducible rfl
   rotate_left
   ·simp only [Act.put, zA, zZ, zS, aI, aJ]
    rfl
   refine lX (i := 11) (N := some 23) #[true, true, true, true, true, true, true, true, true, true, true, true, false, true, false, false, false, false, false] rfl rfl (by kernel_rfl) (by decide) (fun K hK => ?_)
   refine N7 (w1 := ?_) (v := ?_) (by rfl) rfl ?_ ?_
   rotate_left 2
   ·go_simp
    constructor
    ·rfl
    ·rfl
   refine hK.out _ _ ⟨((aG (bD HB1.out _) 0).trans rfl), ((aG (bD HB2.out _) 0).trans rfl), ((aG (bD HP.out _) 0).trans rfl)⟩ (fun hHeld => ?_)
   clear hK K
   refine fO (a' := ?_) ?_ ?_
   rotate_left
   ·show Act.put _ (some 23) _ = _
    simp only [Act.put, zA, zZ, zS, aI, aJ]
    rfl
   refine lX (i := 12) (N := some 24) #[true, true, true, true, true, true, true, true, true, true, true, true, true, true, false, false, false, false, false] rfl rfl (by kernel_rfl) (by decide) (fun K hK => ?_)
   refine step_append_grows rfl (.tmp 20) (.tmp 23) 25 rfl 67 i0 _ 3 40 Tryz.underlying25 HI0.out HZ0.out HZ1.out HZ2.out rfl (by decide) (some ⟨g, 0, none⟩) i i ((cellsOf l).take (i * 3)) rfl (fun h => by cases h) ?log ?qgH ⟨w.heap.size, 0, none⟩ 1 1 [.string name, .string ⟨#[]⟩, .int .i64 0] rfl rfl ?qgI ?qjq (by omega) (by unfold maxLen; omega) (by omega) ?_
   case log => rw [List.length_take, cellsOf_length]; omega
   case qgH => intro b hb j u hj; injection hb with hb; subst hb; rw [add_plain]; exact kE (bD HH.out _) H6.out (WA hj)
   case qgI =>
    intro j u hj
    match j, hj with
    | 0, hj => simp at hj; subst hj; rw [add_plain]; exact (aG (kJ w _) 0).trans rfl
    | 1, hj => simp at hj; subst hj; rw [add_plain]; exact (aG (kJ w _) 1).trans rfl
    | 2, hj => simp at hj; subst hj; rw [add_plain]; exact (aG (kJ w _) 2).trans rfl
    | j + 3, hj => simp at hj
   case qjq => intro u hu; simp at hu; rcases hu with rfl | rfl | rfl <;> rfl
   intro v2 w2 hown hgr
   rw [← vS l i name] at hown
   have hR2 : Kd.R k67 67 w2 base (fun _ => True) v2 (l.take i ++ [(⟨name, ⟨#[]⟩, 0⟩ : S67)]) := oL (by
    have hlen : (l.take i ++ [(⟨name, ⟨#[]⟩, 0⟩ : S67)]).length = i + 1 := by rw [List.length_append, List.length_take, List.length_singleton]; omega
    rw [hlen]
    exact vK hown (by simp; omega))
   have HO2 := aA.mk hR2
   have HG2 := aA.mk hgr
   clear hown hgr hR2
   refine hK.out _ _ ⟨((aG (wP HB1.out HG2.out) 0).trans rfl), ((aG (wP HB2.out HG2.out) 0).trans rfl), ((aG (wP HP.out HG2.out) 0).trans rfl)⟩ (fun hHeld => ?_)
   clear hK K
   refine fO (a' := ?_) ?_ ?_
   rotate_left
   ·show Act.put _ (some 24) _ = _
    simp only [Act.put, zA, zZ, zS, aI, aJ]
    rfl
   refine lX (i := 14) (N := some 26) #[true, true, true, true, true, true, true, true, true, true, true, true, true, true, true, false, false, false, false] rfl rfl (by kernel_rfl) (by decide) (fun K hK => ?_)
   refine Kd.kW k67 (w0 := w) (Rr := fun (x : S67) cs => cs = cells3 x) base (by rfl) (.tmp 24) (.tmp 25) 25 67 (.agg #[(.string ⟨#[]⟩), (.string ⟨#[]⟩), (.int .i64 0)]) 40 rfl Tryz.underlying25 JV rfl (by decide) (by omega) v2 _ (l.drop i) (some ⟨g, i * 3, none⟩) (l.length - i) (c - i) (fun _ => True) (fun _ => False) rfl rfl HO2.out ?rdg (fun x cs h => by subst h; exact yI _ _ _ x) (fun _ h => h.elim) (fun _ _ => trivial) ?qjr ?bsg ?blg ?_
   case rdg => exact TB (wP HH.out HG2.out) H6.out (by omega) _ (fun _ => rfl)
   case qjr => exact vU (fE (vT (Below.refl base w) hbase)) HG2.out (by simp; omega)
   case bsg => have := HG2.out.size; simp at this; omega
   case blg => rw [List.length_append, List.length_take, List.length_singleton]; omega
   intro v3 w3 ho3 hb3 hg3 _
   rw [← HL3.out] at ho3
   obtain ⟨A9, c9, rfl⟩ := Kd.dU ho3
   have HO3 := aA.mk ho3
   have HB3 := aA.mk hb3
   have HG3 := aA.mk hg3
   clear ho3 hb3 hg3
   have hfr := aC (oO HP.out HG2.out HO2.out HG3.out (by decide)) 0
   refine hK.out _ _ ⟨((aG (oO HB1.out HG2.out HO2.out HG3.out (by decide)) 0).trans rfl), ((aG (oO HB2.out HG2.out HO2.out HG3.out (by decide)) 0).trans rfl), ((aG (oO HP.out HG2.out HO2.out HG3.out (by decide)) 0).trans rfl)⟩ (fun hHeld => ?_)
   clear hK K
   refine fO (a' := ?_) ?_ ?_
   rotate_left
   ·show Act.put _ (some 26) _ = _
    simp only [Act.put, zA, zZ, zS, aI, aJ]
    rfl
   refine aQ (i := 15) (N := some 27) (v := ?_) (a' := ?_) #[true, true, true, true, true, true, true, true, true, true, true, true, true, true, true, true, false, false, false] rfl rfl (by kernel_rfl) (fun _ _ _ h => h) (Or.inl ⟨by rfl, ?_⟩) ?_ ?_
   rotate_left
   ·intro w'
    go_simp
    with_reducible rfl
   rotate_left
   ·simp only [Act.put, zA, zZ, zS, aI, aJ]
    rfl
   refine aQ (i := 16) (N := some 28) (v := ?_) (a' := ?_) #[true, true, true, true, true, true, true, true, true, true, true, true, true, true, true, true, true, false, false] rfl rfl (by kernel_rfl) (fun _ _ _ h => h) (Or.inl ⟨by rfl, ?_⟩) ?_ ?_
   rotate_left
   ·intro w'
    go_simp
    with_reducible rfl
   rotate_left
   ·simp only [Act.put, zA, zZ, zS, aI, aJ]
    rfl
   refine aQ (i := 17) (N := some 29) (v := ?_) (a' := ?_) #[true, true, true, true, true, true, true, true, true, true, true, true, true, true, true, true, true, true, false] rfl rfl (by kernel_rfl) (fun _ _ _ h => h) (Or.inl ⟨by rfl, ?_⟩) ?_ ?_
   rotate_left
   ·intro w'
    go_simp
    with_reducible rfl
   rotate_left
   ·simp only [Act.put, zA, zZ, zS, aI, aJ]
    rfl
   refine o7 (i := 18) (N := none) #[true, true, true, true, true, true, true, true, true, true, true, true, true, true, true, true, true, true, true] rfl rfl (by kernel_rfl) (by decide) (fun K hK => ?_)
   refine wU (w1 := ?_) (by rfl) rfl ?_ ?_
   rotate_left
   ·go_simp
    rfl
   refine hK.out _ _ ?_
   clear hK K
   refine jR (by kernel_rfl) ?_
   go_end0
   refine ⟨rfl, _, fQ (cs := #[.slice (some ⟨g, 0, none⟩) l.length c, .bool dn, .int .i64 fu, .int .i64 fa]) (oO HP.out HG2.out HO2.out HG3.out (by decide)) 0 _ rfl, ?_, HB3.out.setCell ?_ _, fun k cs h => ?_⟩
   ·exact R1 (j := 0) HO3.out (oO HP.out HG2.out HO2.out HG3.out (by decide)) (by decide) _
   ·exact qdi
   ·exact dB (p := ⟨gp, 0, none⟩) (oO h HG2.out HO2.out HG3.out (by decide)) (fU h HP.out (by decide)) _
set_option maxHeartbeats 4000000 in
set_option maxRecDepth 100000 in
theorem TD (W w1 : World) (gp : Nat) (v : Value) (l : List S67) (dn : Bool) (fu fa : Int) (name : ByteArray) (sd : Int → List S67) (hsd : ∀ i : Nat, i ≤ l.length → sd (i : Int) = l.take i ++ [(⟨name, ⟨#[]⟩, 0⟩ : S67)] ++ l.drop i) (hb : Below W.heap.size W w1) (hgp : W.heap.size ≤ gp) (hp : w1.heap[gp]? = some (.cells #[v, .bool dn, .int .i64 fu, .int .i64 fa] 211 (0, 0)))
  (ho : Kd.R k67 67 w1 W.heap.size (fun _ => True) v l) (hok : bI l = true) :
  Calls Tryz.prog 125 #[.pointer (some ⟨gp, 0, none⟩), .string name] w1 fun e w2 => ∃ rv dv : Value, e = .returned (.agg #[rv, dv, .bool false]) ∧ Below w1.heap.size w1 w2 ∧ qeq w2 rv l.length (rfC name l.length) ∧ DoV W.heap.size gp w2 dv v l (rfC name l.length) sd := by
 obtain ⟨A, c, rfl⟩ := Kd.dU ho
 have hlt : gp < w1.heap.size := fZ hp
 have hle : l.length ≤ 64 := by
  simp only [bI, Bool.and_eq_true, decide_eq_true_eq] at hok
  exact hok.2
 go_enter Tryz.func125, Tryz.ntmps125
 go_wp2
 refine bodyPost_ret (results_cell_row rfl _ _ (w1.heap.size + 2) 179 #[.func (.func 166) #[] #[.pointer (some ⟨w1.heap.size + 1, 0, none⟩), .pointer (some ⟨w1.heap.size, 0, none⟩)], .func (.func 167) #[] #[.pointer (some ⟨w1.heap.size, 0, none⟩), .pointer (some ⟨w1.heap.size + 1, 0, none⟩)], .bool false] (0, 0) _ rfl (qde w1 _ _ _) Tryz.underlying179 rfl (by kernel_rfl)) rfl ?_
 refine ⟨_, _, rfl, aT (aT (aT (Below.refl _ _) _) _) _, ⟨166, _, rfl, qdg, fun w3 i b hb3 hil hib => ?_⟩, 167, _, rfl, qdh, fun w3 i b dn fu fa hk hil hib hrf hp3 ho3 => ?_⟩
 ·refine fD (args' := #[.int .i64 (i : Int), .bool b, .pointer (some ⟨w1.heap.size + 1, 0, none⟩), .pointer (some ⟨w1.heap.size, 0, none⟩)]) (by simp) ?_
  have OG := hb3 _ _ _ (by decide) (by decide) (by simp) (RG w1 _ _ _)
  have OH := hb3 _ _ _ (by decide) (by decide) (by simp) (RH w1 _ _ _)
  have hpp := hb3 _ _ _ (by decide) (by decide) (by simp) (bD (bD (bD hp _) _) _)
  refine (QM w3 gp w1.heap.size (w1.heap.size + 1) name A l.length c i b (by omega) ((aG OH 0).trans rfl) ((aG OG 0).trans rfl) ((aG hpp 0).trans rfl)).mono ?_
  rintro e w4 ⟨rfl, rfl⟩
  exact ⟨rfl, Below.refl _ _⟩
 ·refine fD (args' := #[.int .i64 (i : Int), .pointer (some ⟨w1.heap.size, 0, none⟩), .pointer (some ⟨w1.heap.size + 1, 0, none⟩)]) (by simp) ?_
  have OG := hk _ _ _ (by decide) (by decide) (fun h => by injection h with h; omega) (RG w1 _ _ _)
  have OH := hk _ _ _ (by decide) (by decide) (fun h => by injection h with h; omega) (RH w1 _ _ _)
  have hsz : W.heap.size ≤ w3.heap.size := by have := fZ hp3; omega
  refine (qbX gp w1.heap.size (w1.heap.size + 1) w3 W.heap.size l name A c dn fu fa i hil hle OG OH ⟨hp3, ho3⟩ hsz hgp).mono fun e w4 h => ?_
  rw [hsd i hil]
  exact h
set_option maxHeartbeats 4000000 in
set_option maxRecDepth 100000 in
theorem qbY (W : World) (nb : Nat) (l : List S67) (dn : Bool) (fu fa : Int) (name : ByteArray) (sd : Int → List S67) (hsd : ∀ i : Nat, i ≤ l.length → sd (i : Int) = l.take i ++ [(⟨name, ⟨#[]⟩, 0⟩ : S67)] ++ l.drop i) (hnb : W.heap[nb]? = some (.cells #[.string name] 9 (0, 0))) :
  OfV W 124 #[.pointer (some ⟨nb, 0, none⟩)] l dn fu fa false (rfC name l.length) sd := by
 intro w1 gp v hb hgp hp ho hok
 have hc := (aG (bG hnb hb) 0).trans rfl
 refine fD (args' := #[.pointer (some ⟨gp, 0, none⟩), .pointer (some ⟨nb, 0, none⟩)]) (by simp) ?_
 have HB := aA.mk hb
 have HGP := aA.mk hgp
 have HP := aA.mk hp
 have HO := aA.mk ho
 have HOK := aA.mk hok
 clear hb hgp hp ho hok hnb
 go_enter Tryz.func124, Tryz.ntmps124
 go_wp2_with (first
 |((with_reducible refine aN (N := 3) rfl ?_);
   refine dH ?hg (N := 3) ?hd (cs := #[.nilFunc, .nilFunc, .bool false]) (t := 179) ?hr ?_;
   (case hd => rfl); (case hg => rfl); (case hr => first | (go_simp; done) | (go_simp; rfl));
   intro g3 hg w2 hbox hb2;
   have N3 := aA.mk (show w1.heap.size ≤ g3 by rw [hg]; exact Nat.le_refl _);
   have hc2 := (hb2.cell (World.block_lt_of_cell? w1 _ hc)).trans hc;
   have HB2 := aA.mk hb2; have BK3 := aA.mk hbox; clear hg hbox hb2 hc)
 |fail)
 refine ((TD W _ gp v l dn fu fa name sd hsd (bC HB.out HB2.out) HGP.out (bG HP.out HB2.out) (Kd.pJ HO.out HB2.out) HOK.out).mono ?_)
 rintro e w4 ⟨rv, dv, rfl, hb4, ⟨Kr, cr, rfl, hKr, hrf⟩, ⟨Kd_, cd, rfl, hKd, hdo⟩⟩
 have HKr := aA.mk hKr
 have Hrf := aA.mk hrf
 have HKd := aA.mk hKd
 have Hdo := aA.mk hdo
 have HB4 := aA.mk hb4
 have bk := bG BK3.out hb4
 have c0 := (aG bk 0).trans rfl
 have c1 := (aG bk 1).trans rfl
 have c2 := (aG bk 2).trans rfl
 have f0 := aC bk 0
 have f1 := aC bk 1
 have f2 := aC bk 2
 have BK4 := aA.mk bk
 clear hKr hrf hKd hdo hb4 bk
 go_wp2
 refine bodyPost_ret (results_cell_row rfl _ _ g3 179 #[.func (.func Kr) #[] cr, .func (.func Kd_) #[] cd, .bool false] (0, 0) _ rfl (qer BK4.out _ _ _) Tryz.underlying179 rfl (by kernel_rfl)) rfl ?_
 have hw4 : Below w1.heap.size w1 w4 := bC HB2.out HB4.out
 have hgg : ∀ (k : Nat), k ≠ g3 → (((w4.setCell ⟨g3, 0, none⟩ (.func (.func Kr) #[] cr)).setCell ⟨g3, 1, none⟩ (.func (.func Kd_) #[] cd)).setCell ⟨g3, 2, none⟩ (.bool false)).heap[k]? = w4.heap[k]? := fun k hk =>
  ((Below.heap_setCell _ ⟨g3, 2, none⟩ _ k hk).trans (Below.heap_setCell _ ⟨g3, 1, none⟩ _ k hk)).trans (Below.heap_setCell _ ⟨g3, 0, none⟩ _ k hk)
 refine ⟨_, _, rfl, below3 hw4 N3.out _ _ _, ⟨Kr, cr, rfl, HKr.out, ?_⟩, Kd_, cd, rfl, HKd.out, ?_⟩
 ·intro w5 i b hk hil hib
  refine Hrf.out w5 i b (fun k cs t h1 h2 h3 h4 => hk k cs t h1 h2 h3 ?_) hil hib
  rw [hgg k (fun e => by subst e; exact absurd h4 (qbW BK4.out h1))]
  exact h4
 ·intro w5 i b dn fu fa hk
  refine Hdo.out w5 i b dn fu fa (fun k cs t h1 h2 h3 h4 => hk k cs t h1 h2 h3 ?_)
  rw [hgg k (fun e => by subst e; exact absurd h4 (qbW BK4.out h1))]
  exact h4
theorem qdj : ∀ (last : List UInt8) (l : List S67) (i : Nat) (x : S67), oH last l = true → l[i]? = some x → x.f0.size ≤ 4096 ∧ x.f1.size ≤ 262144 ∧ 0 ≤ x.f2 ∧ x.f2 ≤ (x.f1.size : Int)
 | _, [], i, x, _, h => by simp at h
 | last, y :: l, 0, x, hk, h => by
  obtain rfl : y = x := by simpa using h
  simp only [oH, CP, Bool.and_eq_true, decide_eq_true_eq] at hk
  exact ⟨hk.1.1.1.1.2, hk.1.1.1.2, hk.1.1.2, hk.1.2⟩
 | last, y :: l, i + 1, x, hk, h => by
  simp only [oH, Bool.and_eq_true] at hk
  exact qdj y.f0.toList l i x hk.2 (by simpa using h)
theorem qB {l : List S67} (h : bI l = true) {i : Nat} {x : S67} (hx : l[i]? = some x) : x.f0.size ≤ 4096 ∧ x.f1.size ≤ 262144 ∧ 0 ≤ x.f2 ∧ x.f2 ≤ (x.f1.size : Int) := by
 simp only [bI, Bool.and_eq_true] at h
 exact qdj [] l i x h.1 hx
theorem iC {l : List S67} {i : Nat} {x : S67} (hx : l[i]? = some x) : dY l (i : Int) = x := by
 simp [dY, List.getD, hx]
def rfW (data : ByteArray) (l : List S67) (i : Int) (b : Bool) : Int := if b = true then (if 262144 - ((dY l i).f1.size : Int) < (data.size : Int) then 8 else 0) else 7
theorem qdk : Enters 175 := fun args w => jW Tryz.func175 (by kernel_rfl) (by kernel_rfl) args w
theorem qdl : Enters 176 := fun args w => jW Tryz.func176 (by kernel_rfl) (by kernel_rfl) args w
set_option maxHeartbeats 4000000 in
set_option maxRecDepth 100000 in
theorem TF (w : World) (gp b1 b2 g : Nat) (cur : Array Value) (data : ByteArray) (l : List S67) (c : Nat) (i : Nat) (x : S67) (hx : l[i]? = some x) (hsz : x.f1.size ≤ 262144) (hn : l.length ≤ 64) (s3 : w.cell? ⟨b2, 0, none⟩ = some (.string data)) (s1 : w.cell? ⟨b1, 0, none⟩ = some (.pointer (some ⟨gp, 0, none⟩)))
  (s2 : w.cell? ⟨gp, 0, none⟩ = some (.slice (some ⟨g, 0, none⟩) l.length c)) (hh : w.heap[g]? = some (.cells cur 67 (0, 0))) (h6 : cur.toList.take (l.length * 3) = cellsOf l) :
  Calls Tryz.prog 175 #[.int .i64 (i : Int), .bool true, .pointer (some ⟨b2, 0, none⟩), .pointer (some ⟨b1, 0, none⟩)] w fun e w' => e = .returned (.int .i64 (rfW data l i true)) ∧ Below w.heap.size w w' := by
 have hlt : i < l.length := (List.getElem?_eq_some_iff.1 hx).1
 obtain ⟨e0, e1, e2⟩ := jB l i x hx
 have s4 : w.cell? ⟨g, i * 3 + 1, none⟩ = some (.string x.f1) := kE hh h6 e1
 have hi0 : (0 : Int) ≤ (i : Int) := by omega
 have hi1 : (i : Int) < (l.length : Int) := by omega
 have hz0 : (x.f1.size : Int) ≤ 262144 := by omega
 obtain ⟨R, hR⟩ : ∃ R, R = rfW data l i true := ⟨_, rfl⟩
 rw [← hR]
 have HR : aA (R = if 262144 - (x.f1.size : Int) < (data.size : Int) then 8 else 0) := ⟨by rw [hR, rfW, if_pos rfl, iC hx]⟩
 clear hR hx hh h6 e0 e1 e2 hsz
 go_enter Tryz.func175, Tryz.ntmps175
 go_wp2_with (go_at_call 160; refine (o8 _ _ _).mono ?_; rintro e w' ⟨rfl, rfl⟩)
 refine gK (n := 14) (S := fun w' => w'.cell? ⟨b2, 0, none⟩ = some (.string data) ∧ w'.cell? ⟨b1, 0, none⟩ = some (.pointer (some ⟨gp, 0, none⟩)) ∧ w'.cell? ⟨gp, 0, none⟩ = some (.slice (some ⟨g, 0, none⟩) l.length c) ∧ w'.cell? ⟨g, i * 3 + 1, none⟩ = some (.string x.f1)) (ds := []) #[false, false, false, false, false, false, false, false, false, false, false, false, false, false] (by kernel_rfl) rfl rfl ⟨s3, s1, s2, s4⟩ (fun hHeld => ?_)
 refine aQ (i := 7) (N := some 21) (v := ?_) (a' := ?_) #[false, false, false, false, false, false, false, true, false, false, false, false, false, false] rfl rfl (by kernel_rfl) (fun _ _ _ h => h) (Or.inl ⟨by rfl, ?_⟩) ?_ ?_
 rotate_left
 ·intro w'
  go_simp
  with_reducible rfl
 rotate_left
 ·simp only [Act.put, zA, zZ, zS, aI, aJ]
  rfl
 refine dD (i := 0) (N := some 14) (v := ?_) (a' := ?_) #[true, false, false, false, false, false, false, true, false, false, false, false, false, false] rfl rfl (by kernel_rfl) (fun _ _ _ h => h) (Or.inl ⟨by rfl, ?_⟩) hHeld ?_ ?_
 rotate_left
 ·rintro w' ⟨s0, s1, s2, s3⟩
  go_simp
  with_reducible rfl
 rotate_left
 ·simp only [Act.put, zA, zZ, zS, aI, aJ]
  rfl
 refine aQ (i := 1) (N := some 15) (v := ?_) (a' := ?_) #[true, true, false, false, false, false, false, true, false, false, false, false, false, false] rfl rfl (by kernel_rfl) (fun _ _ _ h => h) (Or.inl ⟨by rfl, ?_⟩) ?_ ?_
 rotate_left
 ·intro w'
  go_simp
  with_reducible rfl
 rotate_left
 ·simp only [Act.put, zA, zZ, zS, aI, aJ]
  rfl
 refine dD (i := 2) (N := some 16) (v := ?_) (a' := ?_) #[true, true, true, false, false, false, false, true, false, false, false, false, false, false] rfl rfl (by kernel_rfl) (fun _ _ _ h => h) (Or.inl ⟨by rfl, ?_⟩) hHeld ?_ ?_
 rotate_left
 ·rintro w' ⟨s0, s1, s2, s3⟩
  go_simp
  with_reducible rfl
 rotate_left
 ·simp only [Act.put, zA, zZ, zS, aI, aJ]
  rfl
 refine aQ (i := 3) (N := some 17) (v := ?_) (a' := ?_) #[true, true, true, true, false, false, false, true, false, false, false, false, false, false] rfl rfl (by kernel_rfl) (fun _ _ _ h => h) (Or.inl ⟨by rfl, ?_⟩) ?_ ?_
 rotate_left
 ·intro w'
  go_simp
  with_reducible rfl
 rotate_left
 ·simp only [Act.put, zA, zZ, zS, aI, aJ]
  rfl
 refine aQ (i := 4) (N := some 18) (v := ?_) (a' := ?_) #[true, true, true, true, true, false, false, true, false, false, false, false, false, false] rfl rfl (by kernel_rfl) (fun _ _ _ h => h) (Or.inl ⟨by rfl, ?_⟩) ?_ ?_
 rotate_left
 ·intro w'
  go_simp
  with_reducible rfl
 rotate_left
 ·simp only [Act.put, zA, zZ, zS, aI, aJ]
  rfl
 refine aQ (i := 5) (N := some 19) (v := ?_) (a' := ?_) #[true, true, true, true, true, true, false, true, false, false, false, false, false, false] rfl rfl (by kernel_rfl) (fun _ _ _ h => h) (Or.inl ⟨by rfl, ?_⟩) ?_ ?_
 rotate_left
 ·intro w'
  go_simp
  with_reducible rfl
 rotate_left
 ·simp only [Act.put, zA, zZ, zS, aI, aJ]
  rfl
 refine dD (i := 6) (N := some 20) (v := ?_) (a' := ?_) #[true, true, true, true, true, true, true, true, false, false, false, false, false, false] rfl rfl (by kernel_rfl) (fun _ _ _ h => h) (Or.inl ⟨by rfl, ?_⟩) hHeld ?_ ?_
 rotate_left
 ·rintro w' ⟨s0, s1, s2, s3⟩
  go_simp
  with_reducible rfl
 rotate_left
 ·simp only [Act.put, zA, zZ, zS, aI, aJ]
  rfl
 refine aQ (i := 8) (N := some 22) (v := ?_) (a' := ?_) #[true, true, true, true, true, true, true, true, true, false, false, false, false, false] rfl rfl (by kernel_rfl) (fun _ _ _ h => h) (Or.inl ⟨by rfl, ?_⟩) ?_ ?_
 rotate_left
 ·intro w'
  go_simp
  with_reducible rfl
 rotate_left
 ·simp only [Act.put, zA, zZ, zS, aI, aJ]
  rfl
 refine aQ (i := 9) (N := some 23) (v := ?_) (a' := ?_) #[true, true, true, true, true, true, true, true, true, true, false, false, false, false] rfl rfl (by kernel_rfl) (fun _ _ _ h => h) (Or.inl ⟨by rfl, ?_⟩) ?_ ?_
 rotate_left
 ·intro w'
  go_simp
  with_reducible rfl
 rotate_left
 ·simp only [Act.put, zA, zZ, zS, aI, aJ]
  rfl
 refine dD (i := 10) (N := some 24) (v := ?_) (a' := ?_) #[true, true, true, true, true, true, true, true, true, true, true, false, false, false] rfl rfl (by kernel_rfl) (fun _ _ _ h => h) (Or.inl ⟨by rfl, ?_⟩) hHeld ?_ ?_
 rotate_left
 ·rintro w' ⟨s0, s1, s2, s3⟩
  go_simp
  with_reducible rfl
 rotate_left
 ·simp only [Act.put, zA, zZ, zS, aI, aJ]
  rfl
 refine aQ (i := 11) (N := some 25) (v := ?_) (a' := ?_) #[true, true, true, true, true, true, true, true, true, true, true, true, false, false] rfl rfl (by kernel_rfl) (fun _ _ _ h => h) (Or.inl ⟨by rfl, ?_⟩) ?_ ?_
 rotate_left
 ·intro w'
  go_simp
  with_reducible rfl
 rotate_left
 ·simp only [Act.put, zA, zZ, zS, aI, aJ]
  rfl
 refine aQ (i := 12) (N := some 26) (v := ?_) (a' := ?_) #[true, true, true, true, true, true, true, true, true, true, true, true, true, false] rfl rfl (by kernel_rfl) (fun _ _ _ h => h) (Or.inl ⟨by rfl, ?_⟩) ?_ ?_
 rotate_left
 ·intro w'
  go_simp
  with_reducible rfl
 rotate_left
 ·simp only [Act.put, zA, zZ, zS, aI, aJ]
  rfl
 refine aQ (i := 13) (N := some 27) (v := ?_) (a' := ?_) #[true, true, true, true, true, true, true, true, true, true, true, true, true, true] rfl rfl (by kernel_rfl) (fun _ _ _ h => h) (Or.inl ⟨by rfl, ?_⟩) ?_ ?_
 rotate_left
 ·intro w'
  go_simp
  with_reducible rfl
 rotate_left
 ·simp only [Act.put, zA, zZ, zS, aI, aJ]
  rfl
 refine jR (by kernel_rfl) ?_
 have e : wrap64 (262144 - (x.f1.size : Int)) = 262144 - (x.f1.size : Int) := by unfold wrap64; omega
 rw [e]
 clear e
 by_cases h : 262144 - (x.f1.size : Int) < (data.size : Int)
 ·have HE : aA (R = 8) := ⟨by rw [HR.out, if_pos h]⟩
  have hd : decide (262144 - (x.f1.size : Int) < (data.size : Int)) = true := by simpa using h
  rw [hd]
  clear h hd
  go_wp2
  go_ret
  exact ⟨by rw [HE.out]; rfl, fE (Below.refl _ _)⟩
 ·have HE : aA (R = 0) := ⟨by rw [HR.out, if_neg h]⟩
  have hd : decide (262144 - (x.f1.size : Int) < (data.size : Int)) = false := by simpa using h
  rw [hd]
  clear h hd
  go_wp2
  go_ret
  exact ⟨by rw [HE.out]; rfl, fE (Below.refl _ _)⟩
theorem QN (w : World) (v2 v1 : Value) (data : ByteArray) (l : List S67) (i : Int) :
  Calls Tryz.prog 175 #[.int .i64 i, .bool false, v2, v1] w fun e w' => e = .returned (.int .i64 (rfW data l i false)) ∧ w = w' := by
 go_enter Tryz.func175, Tryz.ntmps175
 go_wp2_with (go_at_call 160; refine (o8 _ _ _).mono ?_; rintro e w' ⟨rfl, rfl⟩)
 go_ret
 exact ⟨rfl, rfl⟩
set_option maxHeartbeats 4000000 in
set_option maxRecDepth 100000 in
theorem qdm (gp b1 b2 : Nat) (w : World) (base : Nat) (l : List S67) (data : ByteArray) (A : Option Addr) (c : Nat) (dn : Bool) (fu fa : Int) (i : Nat) (x : S67) (hx : l[i]? = some x) (hsum : x.f1.size + data.size ≤ 262144) (hb1 : w.heap[b1]? = some (.cells #[.pointer (some ⟨gp, 0, none⟩)] 176 (0, 0)))
  (hb2 : w.heap[b2]? = some (.cells #[.string data] 9 (0, 0))) (hp : V9 w base gp (.slice A l.length c) l dn fu fa) :
  Calls Tryz.prog 176 #[.int .i64 (i : Int), .pointer (some ⟨b1, 0, none⟩), .pointer (some ⟨b2, 0, none⟩)] w (Done w base gp dn fu fa (l.set i ⟨x.f0, x.f1 ++ data, x.f2⟩)) := by
 obtain ⟨hp, ho⟩ := hp
 have hlt : i < l.length := (List.getElem?_eq_some_iff.1 hx).1
 obtain ⟨g, cur, rfl, _, hg, hh, h3, h4, h5, h6⟩ := lV ho (by omega)
 obtain ⟨e0, e1, e2⟩ := jB l i x hx
 have s1 : w.cell? ⟨b1, 0, none⟩ = some (.pointer (some ⟨gp, 0, none⟩)) := (aG hb1 0).trans rfl
 have s2 : w.cell? ⟨gp, 0, none⟩ = some (.slice (some ⟨g, 0, none⟩) l.length c) := (aG hp 0).trans rfl
 have s3 : w.cell? ⟨b2, 0, none⟩ = some (.string data) := (aG hb2 0).trans rfl
 have s4 : w.cell? ⟨g, i * 3 + 1, none⟩ = some (.string x.f1) := kE hh h6 e1
 have s5 := aC hh (i * 3 + 1)
 have ngp : g ≠ gp := fU hh hp (by decide)
 have HX := aA.mk hx
 have HO := aA.mk ho
 have HP := aA.mk hp
 have HH := aA.mk hh
 have NGP := aA.mk ngp
 have HG := aA.mk hg
 have hi0 : (0 : Int) ≤ (i : Int) := by omega
 have hi1 : (i : Int) < (l.length : Int) := by omega
 have hs9 : (x.f1.size : Int) + (data.size : Int) ≤ 9223372036854775807 := by omega
 have hs8 : ¬ 9223372036854775807 < x.f1.size + data.size := by omega
 clear hx ho hp hh ngp h3 h4 h5 h6 e0 e1 e2 hb1 hg hb2
 go_enter Tryz.func176, Tryz.ntmps176
 go_wp2
 refine gK (n := 14) (S := fun w' => w'.cell? ⟨b1, 0, none⟩ = some (.pointer (some ⟨gp, 0, none⟩)) ∧ w'.cell? ⟨b2, 0, none⟩ = some (.string data) ∧ w'.cell? ⟨gp, 0, none⟩ = some (.slice (some ⟨g, 0, none⟩) l.length c) ∧ w'.cell? ⟨g, i * 3 + 1, none⟩ = some (.string x.f1)) (ds := [13]) #[false, false, false, false, false, false, false, false, false, false, false, false, false, false] (by kernel_rfl) rfl rfl ⟨s1, s3, s2, s4⟩ (fun hHeld => ?_)
 refine aQ (i := 5) (N := some 9) (v := ?_) (a' := ?_) #[false, false, false, false, false, true, false, false, false, false, false, false, false, false] rfl rfl (by kernel_rfl) (fun _ _ _ h => h) (Or.inl ⟨by rfl, ?_⟩) ?_ ?_
 rotate_left
 ·intro w'
  go_simp
  with_reducible rfl
 rotate_left
 ·simp only [Act.put, zA, zZ, zS, aI, aJ]
  rfl
 refine dD (i := 0) (N := some 4) (v := ?_) (a' := ?_) #[true, false, false, false, false, true, false, false, false, false, false, false, false, false] rfl rfl (by kernel_rfl) (fun _ _ _ h => h) (Or.inl ⟨by rfl, ?_⟩) hHeld ?_ ?_
 rotate_left
 ·rintro w' ⟨s0, s1, s2, s3⟩
  go_simp
  with_reducible rfl
 rotate_left
 ·simp only [Act.put, zA, zZ, zS, aI, aJ]
  rfl
 refine aQ (i := 1) (N := some 5) (v := ?_) (a' := ?_) #[true, true, false, false, false, true, false, false, false, false, false, false, false, false] rfl rfl (by kernel_rfl) (fun _ _ _ h => h) (Or.inl ⟨by rfl, ?_⟩) ?_ ?_
 rotate_left
 ·intro w'
  go_simp
  with_reducible rfl
 rotate_left
 ·simp only [Act.put, zA, zZ, zS, aI, aJ]
  rfl
 refine aQ (i := 2) (N := some 6) (v := ?_) (a' := ?_) #[true, true, true, false, false, true, false, false, false, false, false, false, false, false] rfl rfl (by kernel_rfl) (fun _ _ _ h => h) (Or.inl ⟨by rfl, ?_⟩) ?_ ?_
 rotate_left
 ·intro w'
  go_simp
  with_reducible rfl
 rotate_left
 ·simp only [Act.put, zA, zZ, zS, aI, aJ]
  rfl
 refine aQ (i := 3) (N := some 7) (v := ?_) (a' := ?_) #[true, true, true, true, false, true, false, false, false, false, false, false, false, false] rfl rfl (by kernel_rfl) (fun _ _ _ h => h) (Or.inl ⟨by rfl, ?_⟩) ?_ ?_
 rotate_left
 ·intro w'
  go_simp
  with_reducible rfl
 rotate_left
 ·simp only [Act.put, zA, zZ, zS, aI, aJ]
  rfl
 refine dD (i := 4) (N := some 8) (v := ?_) (a' := ?_) #[true, true, true, true, true, true, false, false, false, false, false, false, false, false] rfl rfl (by kernel_rfl) (fun _ _ _ h => h) (Or.inl ⟨by rfl, ?_⟩) hHeld ?_ ?_
 rotate_left
 ·rintro w' ⟨s0, s1, s2, s3⟩
  go_simp
  with_reducible rfl
 rotate_left
 ·simp only [Act.put, zA, zZ, zS, aI, aJ]
  rfl
 refine aQ (i := 6) (N := some 10) (v := ?_) (a' := ?_) #[true, true, true, true, true, true, true, false, false, false, false, false, false, false] rfl rfl (by kernel_rfl) (fun _ _ _ h => h) (Or.inl ⟨by rfl, ?_⟩) ?_ ?_
 rotate_left
 ·intro w'
  go_simp
  with_reducible rfl
 rotate_left
 ·simp only [Act.put, zA, zZ, zS, aI, aJ]
  rfl
 refine aQ (i := 7) (N := some 11) (v := ?_) (a' := ?_) #[true, true, true, true, true, true, true, true, false, false, false, false, false, false] rfl rfl (by kernel_rfl) (fun _ _ _ h => h) (Or.inl ⟨by rfl, ?_⟩) ?_ ?_
 rotate_left
 ·intro w'
  go_simp
  with_reducible rfl
 rotate_left
 ·simp only [Act.put, zA, zZ, zS, aI, aJ]
  rfl
 refine dD (i := 8) (N := some 12) (v := ?_) (a' := ?_) #[true, true, true, true, true, true, true, true, true, false, false, false, false, false] rfl rfl (by kernel_rfl) (fun _ _ _ h => h) (Or.inl ⟨by rfl, ?_⟩) hHeld ?_ ?_
 rotate_left
 ·rintro w' ⟨s0, s1, s2, s3⟩
  go_simp
  with_reducible rfl
 rotate_left
 ·simp only [Act.put, zA, zZ, zS, aI, aJ]
  rfl
 refine dD (i := 9) (N := some 13) (v := ?_) (a' := ?_) #[true, true, true, true, true, true, true, true, true, true, false, false, false, false] rfl rfl (by kernel_rfl) (fun _ _ _ h => h) (Or.inl ⟨by rfl, ?_⟩) hHeld ?_ ?_
 rotate_left
 ·rintro w' ⟨s0, s1, s2, s3⟩
  go_simp
  with_reducible rfl
 rotate_left
 ·simp only [Act.put, zA, zZ, zS, aI, aJ]
  rfl
 refine aQ (i := 10) (N := some 14) (v := ?_) (a' := ?_) #[true, true, true, true, true, true, true, true, true, true, true, false, false, false] rfl rfl (by kernel_rfl) (fun _ _ _ h => h) (Or.inl ⟨by rfl, ?_⟩) ?_ ?_
 rotate_left
 ·intro w'
  go_simp
  with_reducible rfl
 rotate_left
 ·simp only [Act.put, zA, zZ, zS, aI, aJ]
  rfl
 refine aQ (i := 11) (N := some 15) (v := ?_) (a' := ?_) #[true, true, true, true, true, true, true, true, true, true, true, true, false, false] rfl rfl (by kernel_rfl) (fun _ _ _ h => h) (Or.inl ⟨by rfl, ?_⟩) ?_ ?_
 rotate_left
 ·intro w'
  go_simp
  with_reducible rfl
 rotate_left
 ·simp only [Act.put, zA, zZ, zS, aI, aJ]
  rfl
 refine aQ (i := 12) (N := some 16) (v := ?_) (a' := ?_) #[true, true, true, true, true, true, true, true, true, true, true, true, true, false] rfl rfl (by kernel_rfl) (fun _ _ _ h => h) (Or.inl ⟨by rfl, ?_⟩) ?_ ?_
 rotate_left
 ·intro w'
  go_simp
  with_reducible rfl
 rotate_left
 ·simp only [Act.put, zA, zZ, zS, aI, aJ]
  rfl
 refine o7 (i := 13) (N := none) #[true, true, true, true, true, true, true, true, true, true, true, true, true, true] rfl rfl (by kernel_rfl) (by decide) (fun K hK => ?_)
 refine wU (w1 := ?_) (by rfl) rfl ?_ ?_
 rotate_left
 ·go_simp
  rfl
 refine hK.out _ _ ?_
 clear hK K
 refine jR (by kernel_rfl) ?_
 go_end0
 refine ⟨rfl, .slice (some ⟨g, 0, none⟩) l.length c, bJ (dB (p := ⟨g, i * 3 + 1, none⟩) HP.out (fun e => NGP.out e.symm) _), ?_, fE ((Below.refl base w).setCell HG.out _), fun k cs h => bJ (dB (p := ⟨g, i * 3 + 1, none⟩) h (fU h HH.out (by decide)) _)⟩
 have h := zX (u := .string (x.f1 ++ data)) HO.out (l' := l.set i ⟨x.f0, x.f1 ++ data, x.f2⟩) (by rw [List.length_set]) (jZ l i x _ HX.out) (j := i * 3 + 1) (by omega)
 rw [List.length_set] at h
 exact h
set_option maxHeartbeats 4000000 in
set_option maxRecDepth 100000 in
theorem WB (W w1 : World) (gp : Nat) (v : Value) (l : List S67) (dn : Bool) (fu fa : Int) (data : ByteArray) (sd : Int → List S67) (hsd : ∀ (i : Nat) (x : S67), l[i]? = some x → x.f1.size + data.size ≤ 262144 → sd (i : Int) = l.set i ⟨x.f0, x.f1 ++ data, x.f2⟩) (hb : Below W.heap.size W w1) (hgp : W.heap.size ≤ gp) (hp : w1.heap[gp]? = some (.cells #[v, .bool dn, .int .i64 fu, .int .i64 fa] 211 (0, 0)))
  (ho : Kd.R k67 67 w1 W.heap.size (fun _ => True) v l) (hok : bI l = true) :
  Calls Tryz.prog 129 #[.pointer (some ⟨gp, 0, none⟩), .string data] w1 fun e w2 => ∃ rv dv : Value, e = .returned (.agg #[rv, dv, .bool true]) ∧ Below w1.heap.size w1 w2 ∧ qeq w2 rv l.length (rfW data l) ∧ DoV W.heap.size gp w2 dv v l (rfW data l) sd := by
 obtain ⟨A, c, rfl⟩ := Kd.dU ho
 have hlt : gp < w1.heap.size := fZ hp
 have hle : l.length ≤ 64 := by
  simp only [bI, Bool.and_eq_true, decide_eq_true_eq] at hok
  exact hok.2
 go_enter Tryz.func129, Tryz.ntmps129
 go_wp2
 refine bodyPost_ret (results_cell_row rfl _ _ (w1.heap.size + 2) 179 #[.func (.func 175) #[] #[.pointer (some ⟨w1.heap.size + 1, 0, none⟩), .pointer (some ⟨w1.heap.size, 0, none⟩)], .func (.func 176) #[] #[.pointer (some ⟨w1.heap.size, 0, none⟩), .pointer (some ⟨w1.heap.size + 1, 0, none⟩)], .bool true] (0, 0) _ rfl (qde w1 _ _ _) Tryz.underlying179 rfl (by kernel_rfl)) rfl ?_
 refine ⟨_, _, rfl, aT (aT (aT (Below.refl _ _) _) _) _, ⟨175, _, rfl, qdk, fun w3 i b hb3 hil hib => ?_⟩, 176, _, rfl, qdl, fun w3 i b dn fu fa hk hil hib hrf hp3 ho3 => ?_⟩
 ·refine fD (args' := #[.int .i64 (i : Int), .bool b, .pointer (some ⟨w1.heap.size + 1, 0, none⟩), .pointer (some ⟨w1.heap.size, 0, none⟩)]) (by simp) ?_
  have OG := hb3 _ _ _ (by decide) (by decide) (by simp) (RG w1 _ _ _)
  have OH := hb3 _ _ _ (by decide) (by decide) (by simp) (RH w1 _ _ _)
  have hpp := hb3 _ _ _ (by decide) (by decide) (by simp) (bD (bD (bD hp _) _) _)
  cases b with
  | false =>
   refine (QN w3 _ _ data l i).mono ?_
   rintro e w4 ⟨rfl, rfl⟩
   exact ⟨rfl, Below.refl _ _⟩
  | true =>
   obtain ⟨x, hx⟩ := uX (hib rfl)
   obtain ⟨g, cur, rfl, _, hg, hh, h3, h4, h5, h6⟩ := lV ho (by have := hib rfl; omega)
   exact TF w3 gp w1.heap.size (w1.heap.size + 1) g cur data l c i x hx (qB hok hx).2.1 hle ((aG OH 0).trans rfl) ((aG OG 0).trans rfl) ((aG hpp 0).trans rfl) (hb3 _ _ _ (by decide) (by decide) (by simp) (bD (bD (bD hh _) _) _)) h6
 ·refine fD (args' := #[.int .i64 (i : Int), .pointer (some ⟨w1.heap.size, 0, none⟩), .pointer (some ⟨w1.heap.size + 1, 0, none⟩)]) (by simp) ?_
  have OG := hk _ _ _ (by decide) (by decide) (fun h => by injection h with h; omega) (RG w1 _ _ _)
  have OH := hk _ _ _ (by decide) (by decide) (fun h => by injection h with h; omega) (RH w1 _ _ _)
  have hsz : W.heap.size ≤ w3.heap.size := by have := fZ hp3; omega
  have hbt : b = true := by
   cases b
   ·simp [rfW] at hrf
   ·rfl
  subst hbt
  obtain ⟨x, hx⟩ := uX (hib rfl)
  have hsum : x.f1.size + data.size ≤ 262144 := by
   rw [rfW, if_pos rfl, iC hx] at hrf
   split at hrf
   ·cases hrf
   ·have := (qB hok hx).2.1
    omega
  refine (qdm gp w1.heap.size (w1.heap.size + 1) w3 W.heap.size l data A c dn fu fa i x hx hsum OG OH ⟨hp3, ho3⟩).mono fun e w4 h => ?_
  rw [hsd i x hx hsum]
  exact h
set_option maxHeartbeats 4000000 in
set_option maxRecDepth 100000 in
theorem qdn (W : World) (nb : Nat) (l : List S67) (dn : Bool) (fu fa : Int) (data : ByteArray) (sd : Int → List S67) (hsd : ∀ (i : Nat) (x : S67), l[i]? = some x → x.f1.size + data.size ≤ 262144 → sd (i : Int) = l.set i ⟨x.f0, x.f1 ++ data, x.f2⟩) (hnb : W.heap[nb]? = some (.cells #[.string data] 9 (0, 0))) :
  OfV W 128 #[.pointer (some ⟨nb, 0, none⟩)] l dn fu fa true (rfW data l) sd := by
 intro w1 gp v hb hgp hp ho hok
 have hc := (aG (bG hnb hb) 0).trans rfl
 refine fD (args' := #[.pointer (some ⟨gp, 0, none⟩), .pointer (some ⟨nb, 0, none⟩)]) (by simp) ?_
 have HB := aA.mk hb
 have HGP := aA.mk hgp
 have HP := aA.mk hp
 have HO := aA.mk ho
 have HOK := aA.mk hok
 clear hb hgp hp ho hok hnb
 go_enter Tryz.func128, Tryz.ntmps128
 go_wp2_with (first
 |((with_reducible refine aN (N := 3) rfl ?_);
   refine dH ?hg (N := 3) ?hd (cs := #[.nilFunc, .nilFunc, .bool false]) (t := 179) ?hr ?_;
   (case hd => rfl); (case hg => rfl); (case hr => first | (go_simp; done) | (go_simp; rfl));
   intro g3 hg w2 hbox hb2;
   have N3 := aA.mk (show w1.heap.size ≤ g3 by rw [hg]; exact Nat.le_refl _);
   have hc2 := (hb2.cell (World.block_lt_of_cell? w1 _ hc)).trans hc;
   have HB2 := aA.mk hb2; have BK3 := aA.mk hbox; clear hg hbox hb2 hc)
 |fail)
 refine ((WB W _ gp v l dn fu fa data sd hsd (bC HB.out HB2.out) HGP.out (bG HP.out HB2.out) (Kd.pJ HO.out HB2.out) HOK.out).mono ?_)
 rintro e w4 ⟨rv, dv, rfl, hb4, ⟨Kr, cr, rfl, hKr, hrf⟩, ⟨Kd_, cd, rfl, hKd, hdo⟩⟩
 have HKr := aA.mk hKr
 have Hrf := aA.mk hrf
 have HKd := aA.mk hKd
 have Hdo := aA.mk hdo
 have HB4 := aA.mk hb4
 have bk := bG BK3.out hb4
 have c0 := (aG bk 0).trans rfl
 have c1 := (aG bk 1).trans rfl
 have c2 := (aG bk 2).trans rfl
 have f0 := aC bk 0
 have f1 := aC bk 1
 have f2 := aC bk 2
 have BK4 := aA.mk bk
 clear hKr hrf hKd hdo hb4 bk
 go_wp2
 refine bodyPost_ret (results_cell_row rfl _ _ g3 179 #[.func (.func Kr) #[] cr, .func (.func Kd_) #[] cd, .bool true] (0, 0) _ rfl (qer BK4.out _ _ _) Tryz.underlying179 rfl (by kernel_rfl)) rfl ?_
 have hw4 : Below w1.heap.size w1 w4 := bC HB2.out HB4.out
 have hgg : ∀ (k : Nat), k ≠ g3 → (((w4.setCell ⟨g3, 0, none⟩ (.func (.func Kr) #[] cr)).setCell ⟨g3, 1, none⟩ (.func (.func Kd_) #[] cd)).setCell ⟨g3, 2, none⟩ (.bool true)).heap[k]? = w4.heap[k]? := fun k hk =>
  ((Below.heap_setCell _ ⟨g3, 2, none⟩ _ k hk).trans (Below.heap_setCell _ ⟨g3, 1, none⟩ _ k hk)).trans (Below.heap_setCell _ ⟨g3, 0, none⟩ _ k hk)
 refine ⟨_, _, rfl, below3 hw4 N3.out _ _ _, ⟨Kr, cr, rfl, HKr.out, ?_⟩, Kd_, cd, rfl, HKd.out, ?_⟩
 ·intro w5 i b hk hil hib
  refine Hrf.out w5 i b (fun k cs t h1 h2 h3 h4 => hk k cs t h1 h2 h3 ?_) hil hib
  rw [hgg k (fun e => by subst e; exact absurd h4 (qbW BK4.out h1))]
  exact h4
 ·intro w5 i b dn fu fa hk
  refine Hdo.out w5 i b dn fu fa (fun k cs t h1 h2 h3 h4 => hk k cs t h1 h2 h3 ?_)
  rw [hgg k (fun e => by subst e; exact absurd h4 (qbW BK4.out h1))]
  exact h4
end Go.Proofs.YtanonhipicoigaaGreatDoor.U
