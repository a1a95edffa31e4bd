import Derived.Test.YtanonhipicoigaaMa
import Derived.Deep.RegionLawGrows
import Derived.RegionTactic
import Derived.BigRegion
namespace Go.Proofs.Ytanonhipicoigaa.T
open Go.RowKit Go.Proofs.YtanonhipicoigaaW.PrintWords Go.Proofs.YtanonhipicoigaaW.PrintLast Go.Proofs.YtanonhipicoigaaW.PrintMore
set_option linter.unusedVariables false
set_option linter.unusedSimpArgs false

/-- The plate that is being changed, and the box of a closure that leads to it. -/
def Plate (w : World) (base gp : Nat) (v : Value) (l : List S43) (dn : Bool) (fu fa : Int) : Prop :=
  w.heap[gp]? = some (.cells #[v, .bool dn, .int .i64 fu, .int .i64 fa] 77 (0, 0)) ∧ Kd.R k43 43 w base (fun _ => True) v l
/-- What a change leaves. -/
def Done (w : World) (base gp : Nat) (dn : Bool) (fu fa : Int) (l' : List S43) (e : Ending) (w4 : World) : Prop :=
  e = .returned (.tuple #[]) ∧ ∃ v' : Value, w4.heap[gp]? = some (.cells #[v', .bool dn, .int .i64 fu, .int .i64 fa] 77 (0, 0)) ∧ Kd.R k43 43 w4 base (fun _ => True) v' l' ∧ Below base w w4 ∧
    ∀ (k : Nat) (cs : Array Value), w.heap[k]? = some (.cells cs 24 (0, 0)) → w4.heap[k]? = some (.cells cs 24 (0, 0))
theorem other_block {w : World} {g g' t t' : Nat} {cs cs' : Array Value} (h : w.heap[g]? = some (.cells cs t (0, 0))) (h' : w.heap[g']? = some (.cells cs' t' (0, 0))) (ht : t ≠ t') : g ≠ g' := blk_ne h h' ht
theorem get_of_lt {l : List S43} {i : Nat} (h : i < l.length) : ∃ x, l[i]? = some x := ⟨l[i], List.getElem?_eq_getElem h⟩

theorem new1 (w : World) (o o' : Obj) : ((w.alloc o).alloc o').heap[w.heap.size]? = some o := blk_alloc (blk_new w o) o'
theorem new2 (w : World) (o o' : Obj) : ((w.alloc o).alloc o').heap[w.heap.size + 1]? = some o' := by
  have h := blk_new (w.alloc o) o'
  have e : (w.alloc o).heap.size = w.heap.size + 1 := by
    show (w.heap.push _).size = _
    simp
  rwa [e] at h
theorem new31 (w : World) (o o' o'' : Obj) : (((w.alloc o).alloc o').alloc o'').heap[w.heap.size]? = some o := blk_alloc (new1 w o o') o''
theorem new32 (w : World) (o o' o'' : Obj) : (((w.alloc o).alloc o').alloc o'').heap[w.heap.size + 1]? = some o' := blk_alloc (new2 w o o') o''
theorem new33 (w : World) (o o' o'' : Obj) : (((w.alloc o).alloc o').alloc o'').heap[w.heap.size + 2]? = some o'' := by
  have h := new2 (w.alloc o) o' o''
  have e : (w.alloc o).heap.size = w.heap.size + 1 := by
    show (w.heap.push _).size = _
    simp
  rwa [e] at h
theorem ne63 {w : World} {g t : Nat} {cs cs' : Array Value} (h : w.heap[g]? = some (.cells cs 63 (0, 0))) (ht : t ≠ 63) : ¬ w.heap[g]? = some (.cells cs' t (0, 0)) := by
  rw [h]
  intro e
  injection e with e
  injection e with _ e
  exact ht e.symm
theorem enters57 : Enters 57 := fun args w => enters_ Try.func57 (by kernel_rfl) (by kernel_rfl) args w

/-! ### sync -/
set_option maxHeartbeats 4000000 in
set_option maxRecDepth 100000 in
theorem sync_do (gp b1 : Nat) (w : World) (base : Nat) (l : List S43) (A : Option Addr) (c : Nat) (dn : Bool) (fu fa : Int) (i : Nat) (x : S43) (hx : l[i]? = some x) (hb1 : w.heap[b1]? = some (.cells #[.pointer (some ⟨gp, 0, none⟩)] 59 (0, 0)))
    (hp : Plate w base gp (.slice A l.length c) l dn fu fa) :
    Calls Try.prog 57 #[.int .i64 (i : Int), .pointer (some ⟨b1, 0, none⟩)] w (Done w base gp dn fu fa (l.set i ⟨x.f0, x.f1, (x.f1.size : Int)⟩)) := by
  obtain ⟨hp, ho⟩ := hp
  have hlt : i < l.length := (List.getElem?_eq_some_iff.1 hx).1
  obtain ⟨g, cur, rfl, _, hg, hh, h3, h4, h5, h6⟩ := R_block ho (by omega)
  obtain ⟨e0, e1, e2⟩ := cellsOf_get l i x hx
  have s1 : w.cell? ⟨b1, 0, none⟩ = some (.pointer (some ⟨gp, 0, none⟩)) := (blk_cell hb1 0).trans rfl
  have s2 : w.cell? ⟨gp, 0, none⟩ = some (.slice (some ⟨g, 0, none⟩) l.length c) := (blk_cell hp 0).trans rfl
  have s3 : w.cell? ⟨g, i * 3 + 1, none⟩ = some (.string x.f1) := R_cell hh h6 e1
  have s4 : w.cell? ⟨g, i * 3 + 2, none⟩ = some (.int .i64 x.f2) := R_cell hh h6 e2
  have s5 := blk_frozen hh (i * 3 + 2)
  have ngp : g ≠ gp := other_block hh hp (by decide)
  have HX := Aside0.mk hx
  have HO := Aside0.mk ho
  have HP := Aside0.mk hp
  have HH := Aside0.mk hh
  have NGP := Aside0.mk ngp
  have HG := Aside0.mk hg
  have hi0 : (0 : Int) ≤ (i : Int) := by omega
  have hi1 : (i : Int) < (l.length : Int) := by omega
  clear hx ho hp hh ngp h3 h4 h5 h6 e0 e1 e2 hb1 hg
  go_enter Try.func57, Try.ntmps57
  go_wp2
  refine start_ (n := 19) (S := fun w' => w'.cell? ⟨b1, 0, none⟩ = some (.pointer (some ⟨gp, 0, none⟩)) ∧ w'.cell? ⟨gp, 0, none⟩ = some (.slice (some ⟨g, 0, none⟩) l.length c) ∧ w'.cell? ⟨g, i * 3 + 1, none⟩ = some (.string x.f1)) (ds := [18]) #[false, false, false, false, false, false, false, false, false, false, false, false, false, false, false, false, false, false, false] (by kernel_rfl) rfl rfl ⟨s1, s2, s3⟩ (fun hHeld => ?_)
  refine pure_ (i := 5) (N := some 8) (v := ?_) (a' := ?_) #[false, false, false, false, false, true, false, false, false, false, false, false, false, false, false, false, false, false, false] rfl rfl (by kernel_rfl) (fun _ _ _ h => h) (Or.inl ⟨by rfl, ?_⟩) ?_ ?_
  rotate_left
  · intro w'
    go_simp
    with_reducible rfl
  rotate_left
  · simp only [Act.put, List.setIfInBounds_toArray, List.set_cons_zero, List.set_cons_succ, i64_w, i32_w]
    rfl
  refine pure_ (i := 11) (N := some 14) (v := ?_) (a' := ?_) #[false, false, false, false, false, true, false, false, false, false, false, true, false, false, false, false, false, false, false] rfl rfl (by kernel_rfl) (fun _ _ _ h => h) (Or.inl ⟨by rfl, ?_⟩) ?_ ?_
  rotate_left
  · intro w'
    go_simp
    with_reducible rfl
  rotate_left
  · simp only [Act.put, List.setIfInBounds_toArray, List.set_cons_zero, List.set_cons_succ, i64_w, i32_w]
    rfl
  refine take_ (i := 0) (N := some 3) (v := ?_) (a' := ?_) #[true, false, false, false, false, true, false, false, false, false, false, true, false, false, false, false, false, false, false] rfl rfl (by kernel_rfl) (fun _ _ _ h => h) (Or.inl ⟨by rfl, ?_⟩) hHeld ?_ ?_
  rotate_left
  · rintro w' ⟨s0, s1, s2⟩
    go_simp
    with_reducible rfl
  rotate_left
  · simp only [Act.put, List.setIfInBounds_toArray, List.set_cons_zero, List.set_cons_succ, i64_w, i32_w]
    rfl
  refine pure_ (i := 1) (N := some 4) (v := ?_) (a' := ?_) #[true, true, false, false, false, true, false, false, false, false, false, true, false, false, false, false, false, false, false] rfl rfl (by kernel_rfl) (fun _ _ _ h => h) (Or.inl ⟨by rfl, ?_⟩) ?_ ?_
  rotate_left
  · intro w'
    go_simp
    with_reducible rfl
  rotate_left
  · simp only [Act.put, List.setIfInBounds_toArray, List.set_cons_zero, List.set_cons_succ, i64_w, i32_w]
    rfl
  refine pure_ (i := 2) (N := some 5) (v := ?_) (a' := ?_) #[true, true, true, false, false, true, false, false, false, false, false, true, false, false, false, false, false, false, false] rfl rfl (by kernel_rfl) (fun _ _ _ h => h) (Or.inl ⟨by rfl, ?_⟩) ?_ ?_
  rotate_left
  · intro w'
    go_simp
    with_reducible rfl
  rotate_left
  · simp only [Act.put, List.setIfInBounds_toArray, List.set_cons_zero, List.set_cons_succ, i64_w, i32_w]
    rfl
  refine pure_ (i := 3) (N := some 6) (v := ?_) (a' := ?_) #[true, true, true, true, false, true, false, false, false, false, false, true, false, false, false, false, false, false, false] rfl rfl (by kernel_rfl) (fun _ _ _ h => h) (Or.inl ⟨by rfl, ?_⟩) ?_ ?_
  rotate_left
  · intro w'
    go_simp
    with_reducible rfl
  rotate_left
  · simp only [Act.put, List.setIfInBounds_toArray, List.set_cons_zero, List.set_cons_succ, i64_w, i32_w]
    rfl
  refine take_ (i := 4) (N := some 7) (v := ?_) (a' := ?_) #[true, true, true, true, true, true, false, false, false, false, false, true, false, false, false, false, false, false, false] rfl rfl (by kernel_rfl) (fun _ _ _ h => h) (Or.inl ⟨by rfl, ?_⟩) hHeld ?_ ?_
  rotate_left
  · rintro w' ⟨s0, s1, s2⟩
    go_simp
    with_reducible rfl
  rotate_left
  · simp only [Act.put, List.setIfInBounds_toArray, List.set_cons_zero, List.set_cons_succ, i64_w, i32_w]
    rfl
  refine take_ (i := 6) (N := some 9) (v := ?_) (a' := ?_) #[true, true, true, true, true, true, true, false, false, false, false, true, false, false, false, false, false, false, false] rfl rfl (by kernel_rfl) (fun _ _ _ h => h) (Or.inl ⟨by rfl, ?_⟩) hHeld ?_ ?_
  rotate_left
  · rintro w' ⟨s0, s1, s2⟩
    go_simp
    with_reducible rfl
  rotate_left
  · simp only [Act.put, List.setIfInBounds_toArray, List.set_cons_zero, List.set_cons_succ, i64_w, i32_w]
    rfl
  refine pure_ (i := 7) (N := some 10) (v := ?_) (a' := ?_) #[true, true, true, true, true, true, true, true, false, false, false, true, false, false, false, false, false, false, false] rfl rfl (by kernel_rfl) (fun _ _ _ h => h) (Or.inl ⟨by rfl, ?_⟩) ?_ ?_
  rotate_left
  · intro w'
    go_simp
    with_reducible rfl
  rotate_left
  · simp only [Act.put, List.setIfInBounds_toArray, List.set_cons_zero, List.set_cons_succ, i64_w, i32_w]
    rfl
  refine pure_ (i := 8) (N := some 11) (v := ?_) (a' := ?_) #[true, true, true, true, true, true, true, true, true, false, false, true, false, false, false, false, false, false, false] rfl rfl (by kernel_rfl) (fun _ _ _ h => h) (Or.inl ⟨by rfl, ?_⟩) ?_ ?_
  rotate_left
  · intro w'
    go_simp
    with_reducible rfl
  rotate_left
  · simp only [Act.put, List.setIfInBounds_toArray, List.set_cons_zero, List.set_cons_succ, i64_w, i32_w]
    rfl
  refine pure_ (i := 9) (N := some 12) (v := ?_) (a' := ?_) #[true, true, true, true, true, true, true, true, true, true, false, true, false, false, false, false, false, false, false] rfl rfl (by kernel_rfl) (fun _ _ _ h => h) (Or.inl ⟨by rfl, ?_⟩) ?_ ?_
  rotate_left
  · intro w'
    go_simp
    with_reducible rfl
  rotate_left
  · simp only [Act.put, List.setIfInBounds_toArray, List.set_cons_zero, List.set_cons_succ, i64_w, i32_w]
    rfl
  refine take_ (i := 10) (N := some 13) (v := ?_) (a' := ?_) #[true, true, true, true, true, true, true, true, true, true, true, true, false, false, false, false, false, false, false] rfl rfl (by kernel_rfl) (fun _ _ _ h => h) (Or.inl ⟨by rfl, ?_⟩) hHeld ?_ ?_
  rotate_left
  · rintro w' ⟨s0, s1, s2⟩
    go_simp
    with_reducible rfl
  rotate_left
  · simp only [Act.put, List.setIfInBounds_toArray, List.set_cons_zero, List.set_cons_succ, i64_w, i32_w]
    rfl
  refine pure_ (i := 12) (N := some 15) (v := ?_) (a' := ?_) #[true, true, true, true, true, true, true, true, true, true, true, true, true, false, false, false, false, false, false] rfl rfl (by kernel_rfl) (fun _ _ _ h => h) (Or.inl ⟨by rfl, ?_⟩) ?_ ?_
  rotate_left
  · intro w'
    go_simp
    with_reducible rfl
  rotate_left
  · simp only [Act.put, List.setIfInBounds_toArray, List.set_cons_zero, List.set_cons_succ, i64_w, i32_w]
    rfl
  refine pure_ (i := 13) (N := some 16) (v := ?_) (a' := ?_) #[true, true, true, true, true, true, true, true, true, true, true, true, true, true, false, false, false, false, false] rfl rfl (by kernel_rfl) (fun _ _ _ h => h) (Or.inl ⟨by rfl, ?_⟩) ?_ ?_
  rotate_left
  · intro w'
    go_simp
    with_reducible rfl
  rotate_left
  · simp only [Act.put, List.setIfInBounds_toArray, List.set_cons_zero, List.set_cons_succ, i64_w, i32_w]
    rfl
  refine take_ (i := 14) (N := some 17) (v := ?_) (a' := ?_) #[true, true, true, true, true, true, true, true, true, true, true, true, true, true, true, false, false, false, false] rfl rfl (by kernel_rfl) (fun _ _ _ h => h) (Or.inl ⟨by rfl, ?_⟩) hHeld ?_ ?_
  rotate_left
  · rintro w' ⟨s0, s1, s2⟩
    go_simp
    with_reducible rfl
  rotate_left
  · simp only [Act.put, List.setIfInBounds_toArray, List.set_cons_zero, List.set_cons_succ, i64_w, i32_w]
    rfl
  refine pure_ (i := 15) (N := some 18) (v := ?_) (a' := ?_) #[true, true, true, true, true, true, true, true, true, true, true, true, true, true, true, true, false, false, false] rfl rfl (by kernel_rfl) (fun _ _ _ h => h) (Or.inl ⟨by rfl, ?_⟩) ?_ ?_
  rotate_left
  · intro w'
    go_simp
    with_reducible rfl
  rotate_left
  · simp only [Act.put, List.setIfInBounds_toArray, List.set_cons_zero, List.set_cons_succ, i64_w, i32_w]
    rfl
  refine pure_ (i := 16) (N := some 19) (v := ?_) (a' := ?_) #[true, true, true, true, true, true, true, true, true, true, true, true, true, true, true, true, true, false, false] rfl rfl (by kernel_rfl) (fun _ _ _ h => h) (Or.inl ⟨by rfl, ?_⟩) ?_ ?_
  rotate_left
  · intro w'
    go_simp
    with_reducible rfl
  rotate_left
  · simp only [Act.put, List.setIfInBounds_toArray, List.set_cons_zero, List.set_cons_succ, i64_w, i32_w]
    rfl
  refine pure_ (i := 17) (N := some 20) (v := ?_) (a' := ?_) #[true, true, true, true, true, true, true, true, true, true, true, true, true, true, true, true, true, true, false] rfl rfl (by kernel_rfl) (fun _ _ _ h => h) (Or.inl ⟨by rfl, ?_⟩) ?_ ?_
  rotate_left
  · intro w'
    go_simp
    with_reducible rfl
  rotate_left
  · simp only [Act.put, List.setIfInBounds_toArray, List.set_cons_zero, List.set_cons_succ, i64_w, i32_w]
    rfl
  refine last_ (i := 18) (N := none) #[true, true, true, true, true, true, true, true, true, true, true, true, true, true, true, true, true, true, true] rfl rfl (by kernel_rfl) (by decide) (fun K hK => ?_)
  refine skip_ (w1 := ?_) (by rfl) rfl ?_ ?_
  rotate_left
  · go_simp
    rfl
  refine hK.out _ _ ?_
  clear hK K
  refine done_ (by kernel_rfl) ?_
  go_end0
  refine ⟨rfl, .slice (some ⟨g, 0, none⟩) l.length c, blk_drew (blk_far (p := ⟨g, i * 3 + 2, none⟩) HP.out (fun e => NGP.out e.symm) _), ?_, below_drew ((Below.refl base w).setCell HG.out _), fun k cs h => blk_drew (blk_far (p := ⟨g, i * 3 + 2, none⟩) h (other_block h HH.out (by decide)) _)⟩
  have h := R_put (u := .int .i64 (x.f1.size : Int)) HO.out (l' := l.set i ⟨x.f0, x.f1, (x.f1.size : Int)⟩) (by rw [List.length_set]) (cellsOf_set2 l i x _ HX.out) (j := i * 3 + 2) (by omega)
  rw [List.length_set] at h
  exact h

set_option maxHeartbeats 4000000 in
set_option maxRecDepth 100000 in
theorem sync_of (W : World) (l : List S43) (dn : Bool) (fu fa : Int) (sd : Int → List S43) (hsd : ∀ (i : Nat) (x : S43), l[i]? = some x → sd (i : Int) = l.set i ⟨x.f0, x.f1, (x.f1.size : Int)⟩) :
    OfV W 44 #[] l dn fu fa false (fun _ b => if b = true then 0 else 7) sd := by
  intro w1 gp v hb hgp hp ho hok
  obtain ⟨A, c, rfl⟩ := Kd.R_slice ho
  have hlt : gp < w1.heap.size := blk_lt hp
  go_enter Try.func44, Try.ntmps44
  go_wp2
  refine bodyPost_ret (results_cell_row rfl _ _ (w1.heap.size + 1) 63 #[.func (.func 49) #[] #[], .func (.func 57) #[] #[.pointer (some ⟨w1.heap.size, 0, none⟩)], .bool false] (0, 0) _ rfl (new2 w1 _ _) Try.underlying63 rfl (by kernel_rfl)) rfl ?_
  refine ⟨_, _, rfl, below_alloc (below_alloc (Below.refl _ _) _) _, ⟨49, #[], rfl, enters49, fun w3 i b _ _ _ => calls_of_args (by simp) ((there_any i b w3).mono ?_)⟩, 57, _, rfl, enters57, fun w3 i b dn fu fa hk hil hib hrf hp3 ho3 => ?_⟩
  · rintro e w4 ⟨rfl, rfl⟩
    exact ⟨rfl, Below.refl _ _⟩
  · have hbt : b = true := by
      cases b
      · simp at hrf
      · rfl
    obtain ⟨x, hx⟩ := get_of_lt (hib hbt)
    refine calls_of_args (by simp) ((sync_do gp w1.heap.size w3 W.heap.size l A c dn fu fa i x hx (hk _ _ _ (by decide) (by decide) (fun h => by injection h with h; omega) (new1 w1 _ _)) ⟨hp3, ho3⟩).mono fun e w4 h => ?_)
    rw [hsd i x hx]
    exact h


/-! ### create -/
/-- What creating a file refuses. -/
def rfC (name : ByteArray) (n : Nat) (_ : Int) (b : Bool) : Int := if name.toList = [] ∨ 4096 < name.size then 4 else if b = true then 6 else if 64 ≤ n then 8 else 0
theorem enters55 : Enters 55 := fun args w => enters_ Try.func55 (by kernel_rfl) (by kernel_rfl) args w
theorem enters56 : Enters 56 := fun args w => enters_ Try.func56 (by kernel_rfl) (by kernel_rfl) args w
set_option maxHeartbeats 4000000 in
set_option maxRecDepth 100000 in
theorem create_refuse (w : World) (gp b1 b2 : Nat) (name : ByteArray) (A : Option Addr) (n c : Nat) (i : Int) (b : Bool) (hn : n ≤ 9223372036854775807) (hb2 : w.cell? ⟨b2, 0, none⟩ = some (.string name)) (hb1 : w.cell? ⟨b1, 0, none⟩ = some (.pointer (some ⟨gp, 0, none⟩))) (hp : w.cell? ⟨gp, 0, none⟩ = some (.slice A n c)) :
    Calls Try.prog 55 #[.int .i64 i, .bool b, .pointer (some ⟨b2, 0, none⟩), .pointer (some ⟨b1, 0, none⟩)] w fun e w' => e = .returned (.int .i64 (rfC name n i b)) ∧ w = w' := by
  obtain ⟨R, hR⟩ : ∃ R, R = rfC name n i b := ⟨_, rfl⟩
  rw [← hR]
  have HR := Aside0.mk hR
  clear hR
  by_cases h1 : name.toList = []
  · have HE : Aside0 (R = 4) := ⟨by rw [HR.out, rfC, if_pos (.inl h1)]⟩
    have h1b : name.toList.isEmpty = true := by simp [h1]
    clear h1
    go_enter Try.func55, Try.ntmps55
    go_wp2
    go_ret
    exact ⟨by rw [HE.out]; rfl, rfl⟩
  · have h1b : name.toList.isEmpty = false := by simp [h1]
    have h1c : (name.toList == []) = false := by simp [h1]
    by_cases h2 : 4096 < name.size
    · have HE : Aside0 (R = 4) := ⟨by rw [HR.out, rfC, if_pos (.inr h2)]⟩
      have h2b : decide ((4096 : Int) < (name.size : Int)) = true := by simp; omega
      clear h2
      go_enter Try.func55, Try.ntmps55
      go_wp2
      go_ret
      exact ⟨by rw [HE.out]; rfl, rfl⟩
    · have h3 : ¬ (name.toList = [] ∨ 4096 < name.size) := by rintro (h | h) <;> contradiction
      have h2b : decide ((4096 : Int) < (name.size : Int)) = false := by simp; omega
      clear h2
      cases b with
      | true =>
        have HE : Aside0 (R = 6) := ⟨by rw [HR.out, rfC, if_neg h3, if_pos rfl]⟩
        clear h3
        go_enter Try.func55, Try.ntmps55
        go_wp2
        go_ret
        exact ⟨by rw [HE.out]; rfl, rfl⟩
      | false =>
        by_cases h4 : 64 ≤ n
        · have HE : Aside0 (R = 8) := ⟨by rw [HR.out, rfC, if_neg h3, if_neg (by decide), if_pos h4]⟩
          have h4b : decide ((64 : Int) ≤ (n : Int)) = true := by simp; omega
          clear h3 h4
          go_enter Try.func55, Try.ntmps55
          go_wp2
          go_ret
          exact ⟨by rw [HE.out]; rfl, rfl⟩
        · have HE : Aside0 (R = 0) := ⟨by rw [HR.out, rfC, if_neg h3, if_neg (by decide), if_neg h4]⟩
          have h4b : decide ((64 : Int) ≤ (n : Int)) = false := by simp; omega
          clear h3 h4
          go_enter Try.func55, Try.ntmps55
          go_wp2
          go_ret
          exact ⟨by rw [HE.out]; rfl, rfl⟩


theorem info_parts43 : ∃ i0, Try.prog.info? 43 = some i0 ∧ i0.zero = some (.agg #[(.string ⟨#[]⟩), (.string ⟨#[]⟩), (.int .i64 0)]) ∧ i0.size = 3 ∧ i0.bytes = 40 := by
  obtain ⟨i0, hi, hzz⟩ := Option.map_eq_some_iff.1 info43
  simp only [Prod.mk.injEq] at hzz
  exact ⟨i0, hi, hzz.1, hzz.2.1, hzz.2.2⟩
theorem insert_cells (l : List S43) (i : Nat) (name : ByteArray) : cellsOf (l.take i ++ [(⟨name, ⟨#[]⟩, 0⟩ : S43)]) = (cellsOf l).take (i * 3) ++ [.string name, .string ⟨#[]⟩, .int .i64 0] := by
  rw [cellsOf_append, cellsOf_take]
  rfl
/-- Files that lie behind a place of a row. -/
theorem reads_behind {w : World} {g i : Nat} {cur : Array Value} {l : List S43} (hh : w.heap[g]? = some (.cells cur 43 (0, 0))) (h6 : cur.toList.take (l.length * 3) = cellsOf l) (hl : l.length ≤ 9223372036854775807) (A' : Option Addr) (hA : i < l.length → A' = some ⟨g, i * 3, none⟩) :
    ReadsRow (fun (x : S43) cs => cs = cells3 x) 3 w A' (l.length - i) (l.drop i) := by
  refine ⟨by rw [List.length_drop], by omega, fun h0 => ⟨⟨g, i * 3, none⟩, hA (by omega), fun j p hj => ?_⟩⟩
  rw [List.getElem?_drop] at hj
  obtain ⟨e0, e1, e2⟩ := cellsOf_get l (i + j) p hj
  refine ⟨cells3 p, rfl, rfl, fun k u hk => ?_⟩
  rw [add_plain', show i * 3 + (j * 3 + k) = (i + j) * 3 + k by omega]
  match k, hk with
  | 0, hk => exact R_cell hh h6 (by rw [Nat.add_zero, e0]; simpa [cells3] using hk)
  | 1, hk => exact R_cell hh h6 (by rw [e1]; simpa [cells3] using hk)
  | 2, hk => exact R_cell hh h6 (by rw [e2]; simpa [cells3] using hk)
  | k + 3, hk => simp [cells3] at hk

theorem take_get {xs : List Value} {n j : Nat} {u : Value} (h : (xs.take n)[j]? = some u) : xs[j]? = some u := by
  rw [List.getElem?_take] at h
  split at h
  · exact h
  · cases h
theorem below_alloc' {B : Nat} {w W : World} (h : Below B w W) (hB : B ≤ W.heap.size) {o : Obj} : Below B w (W.alloc o) := h.alloc hB o
theorem below_grown1 {B : Nat} {w W W2 : World} (h : Below B w W) (hg : W.grownBy W2 none) (hB : B ≤ W.heap.size) : Below B w W2 :=
  ⟨hg.os.trans h.os, hg.tape.trans h.tape, hg.output.trans h.output, Nat.le_trans h.size hg.size, fun k hk => (hg.block k (by omega) (by simp)).trans (h.block k hk)⟩
theorem keep2 {w w2 : World} {o : Obj} {k t : Nat} {cs : Array Value} (h : w.heap[k]? = some (.cells cs t (0, 0))) (hg : (w.alloc o).drew.grownBy w2 none) : w2.heap[k]? = some (.cells cs t (0, 0)) :=
  blk_grown (blk_drew (blk_alloc h o)) hg (by simp)
theorem keep3 {w w2 w3 : World} {o : Obj} {k t base : Nat} {cs : Array Value} {v2 : Value} {l2 : List S43} (h : w.heap[k]? = some (.cells cs t (0, 0))) (hg : (w.alloc o).drew.grownBy w2 none) (hR : Kd.R k43 43 w2 base (fun _ => True) v2 l2) (hg3 : w2.grownBy w3 v2.ownBlock) (ht : 43 ≠ t) : w3.heap[k]? = some (.cells cs t (0, 0)) :=
  blk_grown (keep2 h hg) hg3 (Kd.R_ne hR (keep2 h hg) ht)
set_option maxHeartbeats 8000000 in
set_option maxRecDepth 100000 in
theorem create_do (gp b1 b2 : Nat) (w : World) (base : Nat) (l : List S43) (name : ByteArray) (A : Option Addr) (c : Nat) (dn : Bool) (fu fa : Int) (i : Nat) (hil : i ≤ l.length) (hn : l.length ≤ 64) (hb1 : w.heap[b1]? = some (.cells #[.pointer (some ⟨gp, 0, none⟩)] 59 (0, 0)))
    (hb2 : w.heap[b2]? = some (.cells #[.string name] 9 (0, 0))) (hp : Plate w base gp (.slice A l.length c) l dn fu fa) (hbase : base ≤ w.heap.size) (hgpb : base ≤ gp) :
    Calls Try.prog 56 #[.int .i64 (i : Int), .pointer (some ⟨b1, 0, none⟩), .pointer (some ⟨b2, 0, none⟩)] w (Done w base gp dn fu fa (l.take i ++ [(⟨name, ⟨#[]⟩, 0⟩ : S43)] ++ l.drop i)) := by
  obtain ⟨hp, ho⟩ := hp
  obtain ⟨l3, hl3⟩ : ∃ l3, l3 = l.take i ++ [(⟨name, ⟨#[]⟩, 0⟩ : S43)] ++ l.drop i := ⟨_, rfl⟩
  rw [← hl3]
  have HL3 := Aside0.mk hl3
  clear hl3
  obtain ⟨i0, hi0, hz0, hz1, hz2⟩ := info_parts43
  have HI0 := Aside0.mk hi0
  have HZ0 := Aside0.mk hz0
  have HZ1 := Aside0.mk hz1
  have HZ2 := Aside0.mk hz2
  clear hi0 hz0 hz1 hz2
  have hcl : l.length ≤ c := by
    obtain ⟨A', c', he, hl, _⟩ := Kd.R_reads ho
    injection he with _ _ e3
    omega
  have s1 : w.cell? ⟨b1, 0, none⟩ = some (.pointer (some ⟨gp, 0, none⟩)) := (blk_cell hb1 0).trans rfl
  have s2 : w.cell? ⟨gp, 0, none⟩ = some (.slice A l.length c) := (blk_cell hp 0).trans rfl
  have s3 : w.cell? ⟨b2, 0, none⟩ = some (.string name) := (blk_cell hb2 0).trans rfl
  have HO := Aside0.mk ho
  have HP := Aside0.mk hp
  have HB1 := Aside0.mk hb1
  have HB2 := Aside0.mk hb2
  have q0 : (0 : Int) ≤ (i : Int) := by omega
  have q1 : (i : Int) ≤ (l.length : Int) := by omega
  have q2 : i ≤ c := by omega
  clear ho hp hb1 hb2
  obtain ⟨_, hA | ⟨g, cap, cur, he, hbg, hh, h3, h4, h5, h6⟩⟩ := own_of_R HO.out

  · obtain ⟨rfl, hl0⟩ : A = none ∧ c = 0 := by
      obtain ⟨h, _⟩ := hA
      injection h with e1 e2 e3
      exact ⟨e1, e3⟩
    have hc0 : c ≤ 0 := by omega
    have hcm : c ≤ 9223372036854775807 := by omega
    clear hl0 hA
    go_enter Try.func56, Try.ntmps56
    go_wp2
    refine start_ (n := 19) (S := fun w' => w'.cell? ⟨b1, 0, none⟩ = some (.pointer (some ⟨gp, 0, none⟩)) ∧ w'.cell? ⟨b2, 0, none⟩ = some (.string name) ∧ w'.cell? ⟨gp, 0, none⟩ = some (.slice none l.length c)) (ds := [18]) #[false, false, false, false, false, false, false, false, false, false, false, false, false, false, false, false, false, false, false] (by kernel_rfl) rfl rfl ⟨s1, s3, s2⟩ (fun hHeld => ?_)
    refine pure_ (i := 6) (N := some 18) (v := ?_) (a' := ?_) #[false, false, false, false, false, false, true, false, false, false, false, false, false, false, false, false, false, false, false] rfl rfl (by kernel_rfl) (fun _ _ _ h => h) (Or.inl ⟨by rfl, ?_⟩) ?_ ?_
    rotate_left
    · intro w'
      go_simp
      with_reducible rfl
    rotate_left
    · simp only [Act.put, List.setIfInBounds_toArray, List.set_cons_zero, List.set_cons_succ, i64_w, i32_w]
      rfl
    refine pure_ (i := 7) (N := some 19) (v := ?_) (a' := ?_) #[false, false, false, false, false, false, true, true, false, false, false, false, false, false, false, false, false, false, false] rfl rfl (by kernel_rfl) (fun _ _ _ h => h) (Or.inl ⟨by rfl, ?_⟩) ?_ ?_
    rotate_left
    · intro w'
      go_simp
      with_reducible rfl
    rotate_left
    · simp only [Act.put, List.setIfInBounds_toArray, List.set_cons_zero, List.set_cons_succ, i64_w, i32_w]
      rfl
    refine pure_ (i := 13) (N := some 25) (v := ?_) (a' := ?_) #[false, false, false, false, false, false, true, true, false, false, false, false, false, true, false, false, false, false, false] rfl rfl (by kernel_rfl) (fun _ _ _ h => h) (Or.inl ⟨by rfl, ?_⟩) ?_ ?_
    rotate_left
    · intro w'
      go_simp
      with_reducible rfl
    rotate_left
    · simp only [Act.put, List.setIfInBounds_toArray, List.set_cons_zero, List.set_cons_succ, i64_w, i32_w]
      rfl
    refine take_ (i := 0) (N := some 12) (v := ?_) (a' := ?_) #[true, false, false, false, false, false, true, true, false, false, false, false, false, true, false, false, false, false, false] rfl rfl (by kernel_rfl) (fun _ _ _ h => h) (Or.inl ⟨by rfl, ?_⟩) hHeld ?_ ?_
    rotate_left
    · rintro w' ⟨s0, s1, s2⟩
      go_simp
      with_reducible rfl
    rotate_left
    · simp only [Act.put, List.setIfInBounds_toArray, List.set_cons_zero, List.set_cons_succ, i64_w, i32_w]
      rfl
    refine take_ (i := 1) (N := some 13) (v := ?_) (a' := ?_) #[true, true, false, false, false, false, true, true, false, false, false, false, false, true, false, false, false, false, false] rfl rfl (by kernel_rfl) (fun _ _ _ h => h) (Or.inl ⟨by rfl, ?_⟩) hHeld ?_ ?_
    rotate_left
    · rintro w' ⟨s0, s1, s2⟩
      go_simp
      with_reducible rfl
    rotate_left
    · simp only [Act.put, List.setIfInBounds_toArray, List.set_cons_zero, List.set_cons_succ, i64_w, i32_w]
      rfl
    refine pure_ (i := 2) (N := some 14) (v := ?_) (a' := ?_) #[true, true, true, false, false, false, true, true, false, false, false, false, false, true, false, false, false, false, false] rfl rfl (by kernel_rfl) (fun _ _ _ h => h) (Or.inl ⟨by rfl, ?_⟩) ?_ ?_
    rotate_left
    · intro w'
      go_simp
      with_reducible rfl
    rotate_left
    · simp only [Act.put, List.setIfInBounds_toArray, List.set_cons_zero, List.set_cons_succ, i64_w, i32_w]
      rfl
    refine pure_ (i := 3) (N := some 15) (v := ?_) (a' := ?_) #[true, true, true, true, false, false, true, true, false, false, false, false, false, true, false, false, false, false, false] rfl rfl (by kernel_rfl) (fun _ _ _ h => h) (Or.inl ⟨by rfl, ?_⟩) ?_ ?_
    rotate_left
    · intro w'
      go_simp
      with_reducible rfl
    rotate_left
    · simp only [Act.put, List.setIfInBounds_toArray, List.set_cons_zero, List.set_cons_succ, i64_w, i32_w]
      rfl
    refine pure_ (i := 4) (N := some 16) (v := ?_) (a' := ?_) #[true, true, true, true, true, false, true, true, false, false, false, false, false, true, false, false, false, false, false] rfl rfl (by kernel_rfl) (fun _ _ _ h => h) (Or.inl ⟨by rfl, ?_⟩) ?_ ?_
    rotate_left
    · intro w'
      go_simp
      with_reducible rfl
    rotate_left
    · simp only [Act.put, List.setIfInBounds_toArray, List.set_cons_zero, List.set_cons_succ, i64_w, i32_w]
      rfl
    refine take_ (i := 5) (N := some 17) (v := ?_) (a' := ?_) #[true, true, true, true, true, true, true, true, false, false, false, false, false, true, false, false, false, false, false] rfl rfl (by kernel_rfl) (fun _ _ _ h => h) (Or.inl ⟨by rfl, ?_⟩) hHeld ?_ ?_
    rotate_left
    · rintro w' ⟨s0, s1, s2⟩
      go_simp
      with_reducible rfl
    rotate_left
    · simp only [Act.put, List.setIfInBounds_toArray, List.set_cons_zero, List.set_cons_succ, i64_w, i32_w]
      rfl
    refine pure_ (i := 8) (N := some 20) (v := ?_) (a' := ?_) #[true, true, true, true, true, true, true, true, true, false, false, false, false, true, false, false, false, false, false] rfl rfl (by kernel_rfl) (fun _ _ _ h => h) (Or.inl ⟨by rfl, ?_⟩) ?_ ?_
    rotate_left
    · intro w'
      go_simp
      with_reducible rfl
    rotate_left
    · simp only [Act.put, List.setIfInBounds_toArray, List.set_cons_zero, List.set_cons_succ, i64_w, i32_w]
      rfl
    refine take_ (i := 9) (N := some 21) (v := ?_) (a' := ?_) #[true, true, true, true, true, true, true, true, true, true, false, false, false, true, false, false, false, false, false] rfl rfl (by kernel_rfl) (fun _ _ _ h => h) (Or.inl ⟨by rfl, ?_⟩) hHeld ?_ ?_
    rotate_left
    · rintro w' ⟨s0, s1, s2⟩
      go_simp
      with_reducible rfl
    rotate_left
    · simp only [Act.put, List.setIfInBounds_toArray, List.set_cons_zero, List.set_cons_succ, i64_w, i32_w]
      rfl
    refine pure_ (i := 10) (N := some 22) (v := ?_) (a' := ?_) #[true, true, true, true, true, true, true, true, true, true, true, false, false, true, false, false, false, false, false] rfl rfl (by kernel_rfl) (fun _ _ _ h => h) (Or.inl ⟨by rfl, ?_⟩) ?_ ?_
    rotate_left
    · intro w'
      go_simp
      with_reducible rfl
    rotate_left
    · simp only [Act.put, List.setIfInBounds_toArray, List.set_cons_zero, List.set_cons_succ, i64_w, i32_w]
      rfl
    refine one_ (i := 11) (N := some 23) #[true, true, true, true, true, true, true, true, true, true, true, true, false, true, false, false, false, false, false] rfl rfl (by kernel_rfl) (by decide) (fun K hK => ?_)
    refine value_ (w1 := ?_) (v := ?_) (by rfl) rfl ?_ ?_
    rotate_left 2
    · go_simp
      constructor
      · rfl
      · rfl
    refine hK.out _ _ ⟨((blk_cell (blk_alloc HB1.out _) 0).trans rfl), ((blk_cell (blk_alloc HB2.out _) 0).trans rfl), ((blk_cell (blk_alloc HP.out _) 0).trans rfl)⟩ (fun hHeld => ?_)
    clear hK K
    refine norm_ (a' := ?_) ?_ ?_
    rotate_left
    · show Act.put _ (some 23) _ = _
      simp only [Act.put, List.setIfInBounds_toArray, List.set_cons_zero, List.set_cons_succ, i64_w, i32_w]
      rfl
    refine one_ (i := 12) (N := some 24) #[true, true, true, true, true, true, true, true, true, true, true, true, true, true, false, false, false, false, false] rfl rfl (by kernel_rfl) (by decide) (fun K hK => ?_)
    refine step_append_grows rfl (.tmp 20) (.tmp 23) 22 rfl 43 i0 _ 3 40 Try.underlying22 HI0.out HZ0.out HZ1.out HZ2.out rfl (by decide) none i i ((cellsOf l).take (i * 3)) rfl (fun _ => ⟨by omega, by omega⟩) ?lon ?oldsn ⟨w.heap.size, 0, none⟩ 1 1 [.string name, .string ⟨#[]⟩, .int .i64 0] rfl rfl ?newsn ?onen (by omega) (by unfold maxLen; omega) (by omega) ?_
    case lon => rw [List.length_take, cellsOf_length]; omega
    case oldsn => intro b hb; cases hb
    case newsn =>
      intro j u hj
      match j, hj with
      | 0, hj => simp at hj; subst hj; rw [add_plain]; exact (blk_cell (blk_new w _) 0).trans rfl
      | 1, hj => simp at hj; subst hj; rw [add_plain]; exact (blk_cell (blk_new w _) 1).trans rfl
      | 2, hj => simp at hj; subst hj; rw [add_plain]; exact (blk_cell (blk_new w _) 2).trans rfl
      | j + 3, hj => simp at hj
    case onen => intro u hu; simp at hu; rcases hu with rfl | rfl | rfl <;> rfl
    intro v2 w2 hown hgr
    rw [← insert_cells l i name] at hown
    have hR2 : Kd.R k43 43 w2 base (fun _ => True) v2 (l.take i ++ [(⟨name, ⟨#[]⟩, 0⟩ : S43)]) := R_of_own (by
      have hlen : (l.take i ++ [(⟨name, ⟨#[]⟩, 0⟩ : S43)]).length = i + 1 := by rw [List.length_append, List.length_take, List.length_singleton]; omega
      rw [hlen]
      exact own_weaken hown (by simp; omega))
    have HO2 := Aside0.mk hR2
    have HG2 := Aside0.mk hgr
    clear hown hgr hR2
    refine hK.out _ _ ⟨((blk_cell (keep2 HB1.out HG2.out) 0).trans rfl), ((blk_cell (keep2 HB2.out HG2.out) 0).trans rfl), ((blk_cell (keep2 HP.out HG2.out) 0).trans rfl)⟩ (fun hHeld => ?_)
    clear hK K
    refine norm_ (a' := ?_) ?_ ?_
    rotate_left
    · show Act.put _ (some 24) _ = _
      simp only [Act.put, List.setIfInBounds_toArray, List.set_cons_zero, List.set_cons_succ, i64_w, i32_w]
      rfl
    refine one_ (i := 14) (N := some 26) #[true, true, true, true, true, true, true, true, true, true, true, true, true, true, true, false, false, false, false] rfl rfl (by kernel_rfl) (by decide) (fun K hK => ?_)
    refine Kd.R_append_rows_step k43 (w0 := w) (Rr := fun (x : S43) cs => cs = cells3 x) base (by rfl) (.tmp 24) (.tmp 25) 22 43 (.agg #[(.string ⟨#[]⟩), (.string ⟨#[]⟩), (.int .i64 0)]) 40 rfl Try.underlying22 info43 rfl (by decide) (by omega) v2 _ (l.drop i) none (l.length - i) (c - i) (fun _ => True) (fun _ => False) rfl rfl HO2.out ?rdn (fun x cs h => by subst h; exact k43_mkM _ _ _ x) (fun _ h => h.elim) (fun _ _ => trivial) ?beln ?bsn ?bln ?_
    case rdn => exact ⟨by rw [List.length_drop], by omega, fun h => absurd h (by omega)⟩
    case beln => exact below_grown1 (below_drew (below_alloc' (Below.refl base w) hbase)) HG2.out (by simp; omega)
    case bsn => have := HG2.out.size; simp at this; omega
    case bln => rw [List.length_append, List.length_take, List.length_singleton]; omega
    intro v3 w3 ho3 hb3 hg3 _
    rw [← HL3.out] at ho3
    obtain ⟨A9, c9, rfl⟩ := Kd.R_slice ho3
    have HO3 := Aside0.mk ho3
    have HB3 := Aside0.mk hb3
    have HG3 := Aside0.mk hg3
    clear ho3 hb3 hg3
    have hfr := blk_frozen (keep3 HP.out HG2.out HO2.out HG3.out (by decide)) 0
    refine hK.out _ _ ⟨((blk_cell (keep3 HB1.out HG2.out HO2.out HG3.out (by decide)) 0).trans rfl), ((blk_cell (keep3 HB2.out HG2.out HO2.out HG3.out (by decide)) 0).trans rfl), ((blk_cell (keep3 HP.out HG2.out HO2.out HG3.out (by decide)) 0).trans rfl)⟩ (fun hHeld => ?_)
    clear hK K
    refine norm_ (a' := ?_) ?_ ?_
    rotate_left
    · show Act.put _ (some 26) _ = _
      simp only [Act.put, List.setIfInBounds_toArray, List.set_cons_zero, List.set_cons_succ, i64_w, i32_w]
      rfl
    refine pure_ (i := 15) (N := some 27) (v := ?_) (a' := ?_) #[true, true, true, true, true, true, true, true, true, true, true, true, true, true, true, true, false, false, false] rfl rfl (by kernel_rfl) (fun _ _ _ h => h) (Or.inl ⟨by rfl, ?_⟩) ?_ ?_
    rotate_left
    · intro w'
      go_simp
      with_reducible rfl
    rotate_left
    · simp only [Act.put, List.setIfInBounds_toArray, List.set_cons_zero, List.set_cons_succ, i64_w, i32_w]
      rfl
    refine pure_ (i := 16) (N := some 28) (v := ?_) (a' := ?_) #[true, true, true, true, true, true, true, true, true, true, true, true, true, true, true, true, true, false, false] rfl rfl (by kernel_rfl) (fun _ _ _ h => h) (Or.inl ⟨by rfl, ?_⟩) ?_ ?_
    rotate_left
    · intro w'
      go_simp
      with_reducible rfl
    rotate_left
    · simp only [Act.put, List.setIfInBounds_toArray, List.set_cons_zero, List.set_cons_succ, i64_w, i32_w]
      rfl
    refine pure_ (i := 17) (N := some 29) (v := ?_) (a' := ?_) #[true, true, true, true, true, true, true, true, true, true, true, true, true, true, true, true, true, true, false] rfl rfl (by kernel_rfl) (fun _ _ _ h => h) (Or.inl ⟨by rfl, ?_⟩) ?_ ?_
    rotate_left
    · intro w'
      go_simp
      with_reducible rfl
    rotate_left
    · simp only [Act.put, List.setIfInBounds_toArray, List.set_cons_zero, List.set_cons_succ, i64_w, i32_w]
      rfl
    refine last_ (i := 18) (N := none) #[true, true, true, true, true, true, true, true, true, true, true, true, true, true, true, true, true, true, true] rfl rfl (by kernel_rfl) (by decide) (fun K hK => ?_)
    refine skip_ (w1 := ?_) (by rfl) rfl ?_ ?_
    rotate_left
    · go_simp
      rfl
    refine hK.out _ _ ?_
    clear hK K
    refine done_ (by kernel_rfl) ?_
    go_end0
    refine ⟨rfl, _, blk_put (cs := #[.slice none l.length c, .bool dn, .int .i64 fu, .int .i64 fa]) (keep3 HP.out HG2.out HO2.out HG3.out (by decide)) 0 _ rfl, ?_, HB3.out.setCell ?_ _, fun k cs h => ?_⟩
    · exact R1 (j := 0) HO3.out (keep3 HP.out HG2.out HO2.out HG3.out (by decide)) (by decide) _
    · exact hgpb
    · exact blk_far (p := ⟨gp, 0, none⟩) (keep3 h HG2.out HO2.out HG3.out (by decide)) (other_block h HP.out (by decide)) _
  · injection he with e1 e2 e3
    subst e1 e3
    have HH := Aside0.mk hh
    have H6 := Aside0.mk h6
    have hcm : c ≤ 9223372036854775807 := by unfold maxLen at h4; omega
    clear hh h6 h4 h5
    by_cases hci : c = i
    · have hci2 : i = c := hci.symm
      clear hci
      subst hci2
      go_enter Try.func56, Try.ntmps56
      go_wp2
      refine start_ (n := 19) (S := fun w' => w'.cell? ⟨b1, 0, none⟩ = some (.pointer (some ⟨gp, 0, none⟩)) ∧ w'.cell? ⟨b2, 0, none⟩ = some (.string name) ∧ w'.cell? ⟨gp, 0, none⟩ = some (.slice (some ⟨g, 0, none⟩) l.length i)) (ds := [18]) #[false, false, false, false, false, false, false, false, false, false, false, false, false, false, false, false, false, false, false] (by kernel_rfl) rfl rfl ⟨s1, s3, s2⟩ (fun hHeld => ?_)
      refine pure_ (i := 6) (N := some 18) (v := ?_) (a' := ?_) #[false, false, false, false, false, false, true, false, false, false, false, false, false, false, false, false, false, false, false] rfl rfl (by kernel_rfl) (fun _ _ _ h => h) (Or.inl ⟨by rfl, ?_⟩) ?_ ?_
      rotate_left
      · intro w'
        go_simp
        with_reducible rfl
      rotate_left
      · simp only [Act.put, List.setIfInBounds_toArray, List.set_cons_zero, List.set_cons_succ, i64_w, i32_w]
        rfl
      refine pure_ (i := 7) (N := some 19) (v := ?_) (a' := ?_) #[false, false, false, false, false, false, true, true, false, false, false, false, false, false, false, false, false, false, false] rfl rfl (by kernel_rfl) (fun _ _ _ h => h) (Or.inl ⟨by rfl, ?_⟩) ?_ ?_
      rotate_left
      · intro w'
        go_simp
        with_reducible rfl
      rotate_left
      · simp only [Act.put, List.setIfInBounds_toArray, List.set_cons_zero, List.set_cons_succ, i64_w, i32_w]
        rfl
      refine pure_ (i := 13) (N := some 25) (v := ?_) (a' := ?_) #[false, false, false, false, false, false, true, true, false, false, false, false, false, true, false, false, false, false, false] rfl rfl (by kernel_rfl) (fun _ _ _ h => h) (Or.inl ⟨by rfl, ?_⟩) ?_ ?_
      rotate_left
      · intro w'
        go_simp
        with_reducible rfl
      rotate_left
      · simp only [Act.put, List.setIfInBounds_toArray, List.set_cons_zero, List.set_cons_succ, i64_w, i32_w]
        rfl
      refine take_ (i := 0) (N := some 12) (v := ?_) (a' := ?_) #[true, false, false, false, false, false, true, true, false, false, false, false, false, true, false, false, false, false, false] rfl rfl (by kernel_rfl) (fun _ _ _ h => h) (Or.inl ⟨by rfl, ?_⟩) hHeld ?_ ?_
      rotate_left
      · rintro w' ⟨s0, s1, s2⟩
        go_simp
        with_reducible rfl
      rotate_left
      · simp only [Act.put, List.setIfInBounds_toArray, List.set_cons_zero, List.set_cons_succ, i64_w, i32_w]
        rfl
      refine take_ (i := 1) (N := some 13) (v := ?_) (a' := ?_) #[true, true, false, false, false, false, true, true, false, false, false, false, false, true, false, false, false, false, false] rfl rfl (by kernel_rfl) (fun _ _ _ h => h) (Or.inl ⟨by rfl, ?_⟩) hHeld ?_ ?_
      rotate_left
      · rintro w' ⟨s0, s1, s2⟩
        go_simp
        with_reducible rfl
      rotate_left
      · simp only [Act.put, List.setIfInBounds_toArray, List.set_cons_zero, List.set_cons_succ, i64_w, i32_w]
        rfl
      refine pure_ (i := 2) (N := some 14) (v := ?_) (a' := ?_) #[true, true, true, false, false, false, true, true, false, false, false, false, false, true, false, false, false, false, false] rfl rfl (by kernel_rfl) (fun _ _ _ h => h) (Or.inl ⟨by rfl, ?_⟩) ?_ ?_
      rotate_left
      · intro w'
        go_simp
        with_reducible rfl
      rotate_left
      · simp only [Act.put, List.setIfInBounds_toArray, List.set_cons_zero, List.set_cons_succ, i64_w, i32_w]
        rfl
      refine pure_ (i := 3) (N := some 15) (v := ?_) (a' := ?_) #[true, true, true, true, false, false, true, true, false, false, false, false, false, true, false, false, false, false, false] rfl rfl (by kernel_rfl) (fun _ _ _ h => h) (Or.inl ⟨by rfl, ?_⟩) ?_ ?_
      rotate_left
      · intro w'
        go_simp
        with_reducible rfl
      rotate_left
      · simp only [Act.put, List.setIfInBounds_toArray, List.set_cons_zero, List.set_cons_succ, i64_w, i32_w]
        rfl
      refine pure_ (i := 4) (N := some 16) (v := ?_) (a' := ?_) #[true, true, true, true, true, false, true, true, false, false, false, false, false, true, false, false, false, false, false] rfl rfl (by kernel_rfl) (fun _ _ _ h => h) (Or.inl ⟨by rfl, ?_⟩) ?_ ?_
      rotate_left
      · intro w'
        go_simp
        with_reducible rfl
      rotate_left
      · simp only [Act.put, List.setIfInBounds_toArray, List.set_cons_zero, List.set_cons_succ, i64_w, i32_w]
        rfl
      refine take_ (i := 5) (N := some 17) (v := ?_) (a' := ?_) #[true, true, true, true, true, true, true, true, false, false, false, false, false, true, false, false, false, false, false] rfl rfl (by kernel_rfl) (fun _ _ _ h => h) (Or.inl ⟨by rfl, ?_⟩) hHeld ?_ ?_
      rotate_left
      · rintro w' ⟨s0, s1, s2⟩
        go_simp
        with_reducible rfl
      rotate_left
      · simp only [Act.put, List.setIfInBounds_toArray, List.set_cons_zero, List.set_cons_succ, i64_w, i32_w]
        rfl
      refine pure_ (i := 8) (N := some 20) (v := ?_) (a' := ?_) #[true, true, true, true, true, true, true, true, true, false, false, false, false, true, false, false, false, false, false] rfl rfl (by kernel_rfl) (fun _ _ _ h => h) (Or.inl ⟨by rfl, ?_⟩) ?_ ?_
      rotate_left
      · intro w'
        go_simp
        with_reducible rfl
      rotate_left
      · simp only [Act.put, List.setIfInBounds_toArray, List.set_cons_zero, List.set_cons_succ, i64_w, i32_w]
        rfl
      refine take_ (i := 9) (N := some 21) (v := ?_) (a' := ?_) #[true, true, true, true, true, true, true, true, true, true, false, false, false, true, false, false, false, false, false] rfl rfl (by kernel_rfl) (fun _ _ _ h => h) (Or.inl ⟨by rfl, ?_⟩) hHeld ?_ ?_
      rotate_left
      · rintro w' ⟨s0, s1, s2⟩
        go_simp
        with_reducible rfl
      rotate_left
      · simp only [Act.put, List.setIfInBounds_toArray, List.set_cons_zero, List.set_cons_succ, i64_w, i32_w]
        rfl
      refine pure_ (i := 10) (N := some 22) (v := ?_) (a' := ?_) #[true, true, true, true, true, true, true, true, true, true, true, false, false, true, false, false, false, false, false] rfl rfl (by kernel_rfl) (fun _ _ _ h => h) (Or.inl ⟨by rfl, ?_⟩) ?_ ?_
      rotate_left
      · intro w'
        go_simp
        with_reducible rfl
      rotate_left
      · simp only [Act.put, List.setIfInBounds_toArray, List.set_cons_zero, List.set_cons_succ, i64_w, i32_w]
        rfl
      refine one_ (i := 11) (N := some 23) #[true, true, true, true, true, true, true, true, true, true, true, true, false, true, false, false, false, false, false] rfl rfl (by kernel_rfl) (by decide) (fun K hK => ?_)
      refine value_ (w1 := ?_) (v := ?_) (by rfl) rfl ?_ ?_
      rotate_left 2
      · go_simp
        constructor
        · rfl
        · rfl
      refine hK.out _ _ ⟨((blk_cell (blk_alloc HB1.out _) 0).trans rfl), ((blk_cell (blk_alloc HB2.out _) 0).trans rfl), ((blk_cell (blk_alloc HP.out _) 0).trans rfl)⟩ (fun hHeld => ?_)
      clear hK K
      refine norm_ (a' := ?_) ?_ ?_
      rotate_left
      · show Act.put _ (some 23) _ = _
        simp only [Act.put, List.setIfInBounds_toArray, List.set_cons_zero, List.set_cons_succ, i64_w, i32_w]
        rfl
      refine one_ (i := 12) (N := some 24) #[true, true, true, true, true, true, true, true, true, true, true, true, true, true, false, false, false, false, false] rfl rfl (by kernel_rfl) (by decide) (fun K hK => ?_)
      refine step_append_grows rfl (.tmp 20) (.tmp 23) 22 rfl 43 i0 _ 3 40 Try.underlying22 HI0.out HZ0.out HZ1.out HZ2.out rfl (by decide) (some ⟨g, 0, none⟩) i i ((cellsOf l).take (i * 3)) rfl (fun h => by cases h) ?loe ?oldse ⟨w.heap.size, 0, none⟩ 1 1 [.string name, .string ⟨#[]⟩, .int .i64 0] rfl rfl ?newse ?onee (by omega) (by unfold maxLen; omega) (by omega) ?_
      case loe => rw [List.length_take, cellsOf_length]; omega
      case oldse => intro b hb j u hj; injection hb with hb; subst hb; rw [add_plain]; exact R_cell (blk_alloc HH.out _) H6.out (take_get hj)
      case newse =>
        intro j u hj
        match j, hj with
        | 0, hj => simp at hj; subst hj; rw [add_plain]; exact (blk_cell (blk_new w _) 0).trans rfl
        | 1, hj => simp at hj; subst hj; rw [add_plain]; exact (blk_cell (blk_new w _) 1).trans rfl
        | 2, hj => simp at hj; subst hj; rw [add_plain]; exact (blk_cell (blk_new w _) 2).trans rfl
        | j + 3, hj => simp at hj
      case onee => intro u hu; simp at hu; rcases hu with rfl | rfl | rfl <;> rfl
      intro v2 w2 hown hgr
      rw [← insert_cells l i name] at hown
      have hR2 : Kd.R k43 43 w2 base (fun _ => True) v2 (l.take i ++ [(⟨name, ⟨#[]⟩, 0⟩ : S43)]) := R_of_own (by
        have hlen : (l.take i ++ [(⟨name, ⟨#[]⟩, 0⟩ : S43)]).length = i + 1 := by rw [List.length_append, List.length_take, List.length_singleton]; omega
        rw [hlen]
        exact own_weaken hown (by simp; omega))
      have HO2 := Aside0.mk hR2
      have HG2 := Aside0.mk hgr
      clear hown hgr hR2
      refine hK.out _ _ ⟨((blk_cell (keep2 HB1.out HG2.out) 0).trans rfl), ((blk_cell (keep2 HB2.out HG2.out) 0).trans rfl), ((blk_cell (keep2 HP.out HG2.out) 0).trans rfl)⟩ (fun hHeld => ?_)
      clear hK K
      refine norm_ (a' := ?_) ?_ ?_
      rotate_left
      · show Act.put _ (some 24) _ = _
        simp only [Act.put, List.setIfInBounds_toArray, List.set_cons_zero, List.set_cons_succ, i64_w, i32_w]
        rfl
      refine one_ (i := 14) (N := some 26) #[true, true, true, true, true, true, true, true, true, true, true, true, true, true, true, false, false, false, false] rfl rfl (by kernel_rfl) (by decide) (fun K hK => ?_)
      refine Kd.R_append_rows_step k43 (w0 := w) (Rr := fun (x : S43) cs => cs = cells3 x) base (by rfl) (.tmp 24) (.tmp 25) 22 43 (.agg #[(.string ⟨#[]⟩), (.string ⟨#[]⟩), (.int .i64 0)]) 40 rfl Try.underlying22 info43 rfl (by decide) (by omega) v2 _ (l.drop i) (some ⟨g, 0, none⟩) 0 0 (fun _ => True) (fun _ => False) rfl rfl HO2.out ?rde (fun x cs h => by subst h; exact k43_mkM _ _ _ x) (fun _ h => h.elim) (fun _ _ => trivial) ?bele ?bse ?ble ?_
      case rde => exact ⟨by rw [List.length_drop]; omega, by omega, fun h => absurd h (by omega)⟩
      case bele => exact below_grown1 (below_drew (below_alloc' (Below.refl base w) hbase)) HG2.out (by simp; omega)
      case bse => have := HG2.out.size; simp at this; omega
      case ble => rw [List.length_append, List.length_take, List.length_singleton]; omega
      intro v3 w3 ho3 hb3 hg3 _
      rw [← HL3.out] at ho3
      obtain ⟨A9, c9, rfl⟩ := Kd.R_slice ho3
      have HO3 := Aside0.mk ho3
      have HB3 := Aside0.mk hb3
      have HG3 := Aside0.mk hg3
      clear ho3 hb3 hg3
      have hfr := blk_frozen (keep3 HP.out HG2.out HO2.out HG3.out (by decide)) 0
      refine hK.out _ _ ⟨((blk_cell (keep3 HB1.out HG2.out HO2.out HG3.out (by decide)) 0).trans rfl), ((blk_cell (keep3 HB2.out HG2.out HO2.out HG3.out (by decide)) 0).trans rfl), ((blk_cell (keep3 HP.out HG2.out HO2.out HG3.out (by decide)) 0).trans rfl)⟩ (fun hHeld => ?_)
      clear hK K
      refine norm_ (a' := ?_) ?_ ?_
      rotate_left
      · show Act.put _ (some 26) _ = _
        simp only [Act.put, List.setIfInBounds_toArray, List.set_cons_zero, List.set_cons_succ, i64_w, i32_w]
        rfl
      refine pure_ (i := 15) (N := some 27) (v := ?_) (a' := ?_) #[true, true, true, true, true, true, true, true, true, true, true, true, true, true, true, true, false, false, false] rfl rfl (by kernel_rfl) (fun _ _ _ h => h) (Or.inl ⟨by rfl, ?_⟩) ?_ ?_
      rotate_left
      · intro w'
        go_simp
        with_reducible rfl
      rotate_left
      · simp only [Act.put, List.setIfInBounds_toArray, List.set_cons_zero, List.set_cons_succ, i64_w, i32_w]
        rfl
      refine pure_ (i := 16) (N := some 28) (v := ?_) (a' := ?_) #[true, true, true, true, true, true, true, true, true, true, true, true, true, true, true, true, true, false, false] rfl rfl (by kernel_rfl) (fun _ _ _ h => h) (Or.inl ⟨by rfl, ?_⟩) ?_ ?_
      rotate_left
      · intro w'
        go_simp
        with_reducible rfl
      rotate_left
      · simp only [Act.put, List.setIfInBounds_toArray, List.set_cons_zero, List.set_cons_succ, i64_w, i32_w]
        rfl
      refine pure_ (i := 17) (N := some 29) (v := ?_) (a' := ?_) #[true, true, true, true, true, true, true, true, true, true, true, true, true, true, true, true, true, true, false] rfl rfl (by kernel_rfl) (fun _ _ _ h => h) (Or.inl ⟨by rfl, ?_⟩) ?_ ?_
      rotate_left
      · intro w'
        go_simp
        with_reducible rfl
      rotate_left
      · simp only [Act.put, List.setIfInBounds_toArray, List.set_cons_zero, List.set_cons_succ, i64_w, i32_w]
        rfl
      refine last_ (i := 18) (N := none) #[true, true, true, true, true, true, true, true, true, true, true, true, true, true, true, true, true, true, true] rfl rfl (by kernel_rfl) (by decide) (fun K hK => ?_)
      refine skip_ (w1 := ?_) (by rfl) rfl ?_ ?_
      rotate_left
      · go_simp
        rfl
      refine hK.out _ _ ?_
      clear hK K
      refine done_ (by kernel_rfl) ?_
      go_end0
      refine ⟨rfl, _, blk_put (cs := #[.slice (some ⟨g, 0, none⟩) l.length i, .bool dn, .int .i64 fu, .int .i64 fa]) (keep3 HP.out HG2.out HO2.out HG3.out (by decide)) 0 _ rfl, ?_, HB3.out.setCell ?_ _, fun k cs h => ?_⟩
      · exact R1 (j := 0) HO3.out (keep3 HP.out HG2.out HO2.out HG3.out (by decide)) (by decide) _
      · exact hgpb
      · exact blk_far (p := ⟨gp, 0, none⟩) (keep3 h HG2.out HO2.out HG3.out (by decide)) (other_block h HP.out (by decide)) _
    · go_enter Try.func56, Try.ntmps56
      go_wp2
      refine start_ (n := 19) (S := fun w' => w'.cell? ⟨b1, 0, none⟩ = some (.pointer (some ⟨gp, 0, none⟩)) ∧ w'.cell? ⟨b2, 0, none⟩ = some (.string name) ∧ w'.cell? ⟨gp, 0, none⟩ = some (.slice (some ⟨g, 0, none⟩) l.length c)) (ds := [18]) #[false, false, false, false, false, false, false, false, false, false, false, false, false, false, false, false, false, false, false] (by kernel_rfl) rfl rfl ⟨s1, s3, s2⟩ (fun hHeld => ?_)
      refine pure_ (i := 6) (N := some 18) (v := ?_) (a' := ?_) #[false, false, false, false, false, false, true, false, false, false, false, false, false, false, false, false, false, false, false] rfl rfl (by kernel_rfl) (fun _ _ _ h => h) (Or.inl ⟨by rfl, ?_⟩) ?_ ?_
      rotate_left
      · intro w'
        go_simp
        with_reducible rfl
      rotate_left
      · simp only [Act.put, List.setIfInBounds_toArray, List.set_cons_zero, List.set_cons_succ, i64_w, i32_w]
        rfl
      refine pure_ (i := 7) (N := some 19) (v := ?_) (a' := ?_) #[false, false, false, false, false, false, true, true, false, false, false, false, false, false, false, false, false, false, false] rfl rfl (by kernel_rfl) (fun _ _ _ h => h) (Or.inl ⟨by rfl, ?_⟩) ?_ ?_
      rotate_left
      · intro w'
        go_simp
        with_reducible rfl
      rotate_left
      · simp only [Act.put, List.setIfInBounds_toArray, List.set_cons_zero, List.set_cons_succ, i64_w, i32_w]
        rfl
      refine pure_ (i := 13) (N := some 25) (v := ?_) (a' := ?_) #[false, false, false, false, false, false, true, true, false, false, false, false, false, true, false, false, false, false, false] rfl rfl (by kernel_rfl) (fun _ _ _ h => h) (Or.inl ⟨by rfl, ?_⟩) ?_ ?_
      rotate_left
      · intro w'
        go_simp
        with_reducible rfl
      rotate_left
      · simp only [Act.put, List.setIfInBounds_toArray, List.set_cons_zero, List.set_cons_succ, i64_w, i32_w]
        rfl
      refine take_ (i := 0) (N := some 12) (v := ?_) (a' := ?_) #[true, false, false, false, false, false, true, true, false, false, false, false, false, true, false, false, false, false, false] rfl rfl (by kernel_rfl) (fun _ _ _ h => h) (Or.inl ⟨by rfl, ?_⟩) hHeld ?_ ?_
      rotate_left
      · rintro w' ⟨s0, s1, s2⟩
        go_simp
        with_reducible rfl
      rotate_left
      · simp only [Act.put, List.setIfInBounds_toArray, List.set_cons_zero, List.set_cons_succ, i64_w, i32_w]
        rfl
      refine take_ (i := 1) (N := some 13) (v := ?_) (a' := ?_) #[true, true, false, false, false, false, true, true, false, false, false, false, false, true, false, false, false, false, false] rfl rfl (by kernel_rfl) (fun _ _ _ h => h) (Or.inl ⟨by rfl, ?_⟩) hHeld ?_ ?_
      rotate_left
      · rintro w' ⟨s0, s1, s2⟩
        go_simp
        with_reducible rfl
      rotate_left
      · simp only [Act.put, List.setIfInBounds_toArray, List.set_cons_zero, List.set_cons_succ, i64_w, i32_w]
        rfl
      refine pure_ (i := 2) (N := some 14) (v := ?_) (a' := ?_) #[true, true, true, false, false, false, true, true, false, false, false, false, false, true, false, false, false, false, false] rfl rfl (by kernel_rfl) (fun _ _ _ h => h) (Or.inl ⟨by rfl, ?_⟩) ?_ ?_
      rotate_left
      · intro w'
        go_simp
        with_reducible rfl
      rotate_left
      · simp only [Act.put, List.setIfInBounds_toArray, List.set_cons_zero, List.set_cons_succ, i64_w, i32_w]
        rfl
      refine pure_ (i := 3) (N := some 15) (v := ?_) (a' := ?_) #[true, true, true, true, false, false, true, true, false, false, false, false, false, true, false, false, false, false, false] rfl rfl (by kernel_rfl) (fun _ _ _ h => h) (Or.inl ⟨by rfl, ?_⟩) ?_ ?_
      rotate_left
      · intro w'
        go_simp
        with_reducible rfl
      rotate_left
      · simp only [Act.put, List.setIfInBounds_toArray, List.set_cons_zero, List.set_cons_succ, i64_w, i32_w]
        rfl
      refine pure_ (i := 4) (N := some 16) (v := ?_) (a' := ?_) #[true, true, true, true, true, false, true, true, false, false, false, false, false, true, false, false, false, false, false] rfl rfl (by kernel_rfl) (fun _ _ _ h => h) (Or.inl ⟨by rfl, ?_⟩) ?_ ?_
      rotate_left
      · intro w'
        go_simp
        with_reducible rfl
      rotate_left
      · simp only [Act.put, List.setIfInBounds_toArray, List.set_cons_zero, List.set_cons_succ, i64_w, i32_w]
        rfl
      refine take_ (i := 5) (N := some 17) (v := ?_) (a' := ?_) #[true, true, true, true, true, true, true, true, false, false, false, false, false, true, false, false, false, false, false] rfl rfl (by kernel_rfl) (fun _ _ _ h => h) (Or.inl ⟨by rfl, ?_⟩) hHeld ?_ ?_
      rotate_left
      · rintro w' ⟨s0, s1, s2⟩
        go_simp
        with_reducible rfl
      rotate_left
      · simp only [Act.put, List.setIfInBounds_toArray, List.set_cons_zero, List.set_cons_succ, i64_w, i32_w]
        rfl
      refine pure_ (i := 8) (N := some 20) (v := ?_) (a' := ?_) #[true, true, true, true, true, true, true, true, true, false, false, false, false, true, false, false, false, false, false] rfl rfl (by kernel_rfl) (fun _ _ _ h => h) (Or.inl ⟨by rfl, ?_⟩) ?_ ?_
      rotate_left
      · intro w'
        go_simp
        with_reducible rfl
      rotate_left
      · simp only [Act.put, List.setIfInBounds_toArray, List.set_cons_zero, List.set_cons_succ, i64_w, i32_w]
        rfl
      refine take_ (i := 9) (N := some 21) (v := ?_) (a' := ?_) #[true, true, true, true, true, true, true, true, true, true, false, false, false, true, false, false, false, false, false] rfl rfl (by kernel_rfl) (fun _ _ _ h => h) (Or.inl ⟨by rfl, ?_⟩) hHeld ?_ ?_
      rotate_left
      · rintro w' ⟨s0, s1, s2⟩
        go_simp
        with_reducible rfl
      rotate_left
      · simp only [Act.put, List.setIfInBounds_toArray, List.set_cons_zero, List.set_cons_succ, i64_w, i32_w]
        rfl
      refine pure_ (i := 10) (N := some 22) (v := ?_) (a' := ?_) #[true, true, true, true, true, true, true, true, true, true, true, false, false, true, false, false, false, false, false] rfl rfl (by kernel_rfl) (fun _ _ _ h => h) (Or.inl ⟨by rfl, ?_⟩) ?_ ?_
      rotate_left
      · intro w'
        go_simp
        with_reducible rfl
      rotate_left
      · simp only [Act.put, List.setIfInBounds_toArray, List.set_cons_zero, List.set_cons_succ, i64_w, i32_w]
        rfl
      refine one_ (i := 11) (N := some 23) #[true, true, true, true, true, true, true, true, true, true, true, true, false, true, false, false, false, false, false] rfl rfl (by kernel_rfl) (by decide) (fun K hK => ?_)
      refine value_ (w1 := ?_) (v := ?_) (by rfl) rfl ?_ ?_
      rotate_left 2
      · go_simp
        constructor
        · rfl
        · rfl
      refine hK.out _ _ ⟨((blk_cell (blk_alloc HB1.out _) 0).trans rfl), ((blk_cell (blk_alloc HB2.out _) 0).trans rfl), ((blk_cell (blk_alloc HP.out _) 0).trans rfl)⟩ (fun hHeld => ?_)
      clear hK K
      refine norm_ (a' := ?_) ?_ ?_
      rotate_left
      · show Act.put _ (some 23) _ = _
        simp only [Act.put, List.setIfInBounds_toArray, List.set_cons_zero, List.set_cons_succ, i64_w, i32_w]
        rfl
      refine one_ (i := 12) (N := some 24) #[true, true, true, true, true, true, true, true, true, true, true, true, true, true, false, false, false, false, false] rfl rfl (by kernel_rfl) (by decide) (fun K hK => ?_)
      refine step_append_grows rfl (.tmp 20) (.tmp 23) 22 rfl 43 i0 _ 3 40 Try.underlying22 HI0.out HZ0.out HZ1.out HZ2.out rfl (by decide) (some ⟨g, 0, none⟩) i i ((cellsOf l).take (i * 3)) rfl (fun h => by cases h) ?log ?oldsg ⟨w.heap.size, 0, none⟩ 1 1 [.string name, .string ⟨#[]⟩, .int .i64 0] rfl rfl ?newsg ?oneg (by omega) (by unfold maxLen; omega) (by omega) ?_
      case log => rw [List.length_take, cellsOf_length]; omega
      case oldsg => intro b hb j u hj; injection hb with hb; subst hb; rw [add_plain]; exact R_cell (blk_alloc HH.out _) H6.out (take_get hj)
      case newsg =>
        intro j u hj
        match j, hj with
        | 0, hj => simp at hj; subst hj; rw [add_plain]; exact (blk_cell (blk_new w _) 0).trans rfl
        | 1, hj => simp at hj; subst hj; rw [add_plain]; exact (blk_cell (blk_new w _) 1).trans rfl
        | 2, hj => simp at hj; subst hj; rw [add_plain]; exact (blk_cell (blk_new w _) 2).trans rfl
        | j + 3, hj => simp at hj
      case oneg => intro u hu; simp at hu; rcases hu with rfl | rfl | rfl <;> rfl
      intro v2 w2 hown hgr
      rw [← insert_cells l i name] at hown
      have hR2 : Kd.R k43 43 w2 base (fun _ => True) v2 (l.take i ++ [(⟨name, ⟨#[]⟩, 0⟩ : S43)]) := R_of_own (by
        have hlen : (l.take i ++ [(⟨name, ⟨#[]⟩, 0⟩ : S43)]).length = i + 1 := by rw [List.length_append, List.length_take, List.length_singleton]; omega
        rw [hlen]
        exact own_weaken hown (by simp; omega))
      have HO2 := Aside0.mk hR2
      have HG2 := Aside0.mk hgr
      clear hown hgr hR2
      refine hK.out _ _ ⟨((blk_cell (keep2 HB1.out HG2.out) 0).trans rfl), ((blk_cell (keep2 HB2.out HG2.out) 0).trans rfl), ((blk_cell (keep2 HP.out HG2.out) 0).trans rfl)⟩ (fun hHeld => ?_)
      clear hK K
      refine norm_ (a' := ?_) ?_ ?_
      rotate_left
      · show Act.put _ (some 24) _ = _
        simp only [Act.put, List.setIfInBounds_toArray, List.set_cons_zero, List.set_cons_succ, i64_w, i32_w]
        rfl
      refine one_ (i := 14) (N := some 26) #[true, true, true, true, true, true, true, true, true, true, true, true, true, true, true, false, false, false, false] rfl rfl (by kernel_rfl) (by decide) (fun K hK => ?_)
      refine Kd.R_append_rows_step k43 (w0 := w) (Rr := fun (x : S43) cs => cs = cells3 x) base (by rfl) (.tmp 24) (.tmp 25) 22 43 (.agg #[(.string ⟨#[]⟩), (.string ⟨#[]⟩), (.int .i64 0)]) 40 rfl Try.underlying22 info43 rfl (by decide) (by omega) v2 _ (l.drop i) (some ⟨g, i * 3, none⟩) (l.length - i) (c - i) (fun _ => True) (fun _ => False) rfl rfl HO2.out ?rdg (fun x cs h => by subst h; exact k43_mkM _ _ _ x) (fun _ h => h.elim) (fun _ _ => trivial) ?belg ?bsg ?blg ?_
      case rdg => exact reads_behind (keep2 HH.out HG2.out) H6.out (by omega) _ (fun _ => rfl)
      case belg => exact below_grown1 (below_drew (below_alloc' (Below.refl base w) hbase)) HG2.out (by simp; omega)
      case bsg => have := HG2.out.size; simp at this; omega
      case blg => rw [List.length_append, List.length_take, List.length_singleton]; omega
      intro v3 w3 ho3 hb3 hg3 _
      rw [← HL3.out] at ho3
      obtain ⟨A9, c9, rfl⟩ := Kd.R_slice ho3
      have HO3 := Aside0.mk ho3
      have HB3 := Aside0.mk hb3
      have HG3 := Aside0.mk hg3
      clear ho3 hb3 hg3
      have hfr := blk_frozen (keep3 HP.out HG2.out HO2.out HG3.out (by decide)) 0
      refine hK.out _ _ ⟨((blk_cell (keep3 HB1.out HG2.out HO2.out HG3.out (by decide)) 0).trans rfl), ((blk_cell (keep3 HB2.out HG2.out HO2.out HG3.out (by decide)) 0).trans rfl), ((blk_cell (keep3 HP.out HG2.out HO2.out HG3.out (by decide)) 0).trans rfl)⟩ (fun hHeld => ?_)
      clear hK K
      refine norm_ (a' := ?_) ?_ ?_
      rotate_left
      · show Act.put _ (some 26) _ = _
        simp only [Act.put, List.setIfInBounds_toArray, List.set_cons_zero, List.set_cons_succ, i64_w, i32_w]
        rfl
      refine pure_ (i := 15) (N := some 27) (v := ?_) (a' := ?_) #[true, true, true, true, true, true, true, true, true, true, true, true, true, true, true, true, false, false, false] rfl rfl (by kernel_rfl) (fun _ _ _ h => h) (Or.inl ⟨by rfl, ?_⟩) ?_ ?_
      rotate_left
      · intro w'
        go_simp
        with_reducible rfl
      rotate_left
      · simp only [Act.put, List.setIfInBounds_toArray, List.set_cons_zero, List.set_cons_succ, i64_w, i32_w]
        rfl
      refine pure_ (i := 16) (N := some 28) (v := ?_) (a' := ?_) #[true, true, true, true, true, true, true, true, true, true, true, true, true, true, true, true, true, false, false] rfl rfl (by kernel_rfl) (fun _ _ _ h => h) (Or.inl ⟨by rfl, ?_⟩) ?_ ?_
      rotate_left
      · intro w'
        go_simp
        with_reducible rfl
      rotate_left
      · simp only [Act.put, List.setIfInBounds_toArray, List.set_cons_zero, List.set_cons_succ, i64_w, i32_w]
        rfl
      refine pure_ (i := 17) (N := some 29) (v := ?_) (a' := ?_) #[true, true, true, true, true, true, true, true, true, true, true, true, true, true, true, true, true, true, false] rfl rfl (by kernel_rfl) (fun _ _ _ h => h) (Or.inl ⟨by rfl, ?_⟩) ?_ ?_
      rotate_left
      · intro w'
        go_simp
        with_reducible rfl
      rotate_left
      · simp only [Act.put, List.setIfInBounds_toArray, List.set_cons_zero, List.set_cons_succ, i64_w, i32_w]
        rfl
      refine last_ (i := 18) (N := none) #[true, true, true, true, true, true, true, true, true, true, true, true, true, true, true, true, true, true, true] rfl rfl (by kernel_rfl) (by decide) (fun K hK => ?_)
      refine skip_ (w1 := ?_) (by rfl) rfl ?_ ?_
      rotate_left
      · go_simp
        rfl
      refine hK.out _ _ ?_
      clear hK K
      refine done_ (by kernel_rfl) ?_
      go_end0
      refine ⟨rfl, _, blk_put (cs := #[.slice (some ⟨g, 0, none⟩) l.length c, .bool dn, .int .i64 fu, .int .i64 fa]) (keep3 HP.out HG2.out HO2.out HG3.out (by decide)) 0 _ rfl, ?_, HB3.out.setCell ?_ _, fun k cs h => ?_⟩
      · exact R1 (j := 0) HO3.out (keep3 HP.out HG2.out HO2.out HG3.out (by decide)) (by decide) _
      · exact hgpb
      · exact blk_far (p := ⟨gp, 0, none⟩) (keep3 h HG2.out HO2.out HG3.out (by decide)) (other_block h HP.out (by decide)) _


set_option maxHeartbeats 4000000 in
set_option maxRecDepth 100000 in
theorem create_inner (W w1 : World) (gp : Nat) (v : Value) (l : List S43) (dn : Bool) (fu fa : Int) (name : ByteArray) (sd : Int → List S43) (hsd : ∀ i : Nat, i ≤ l.length → sd (i : Int) = l.take i ++ [(⟨name, ⟨#[]⟩, 0⟩ : S43)] ++ l.drop i) (hb : Below W.heap.size W w1) (hgp : W.heap.size ≤ gp) (hp : w1.heap[gp]? = some (.cells #[v, .bool dn, .int .i64 fu, .int .i64 fa] 77 (0, 0)))
    (ho : Kd.R k43 43 w1 W.heap.size (fun _ => True) v l) (hok : rightF l = true) :
    Calls Try.prog 43 #[.pointer (some ⟨gp, 0, none⟩), .string name] w1 fun e w2 => ∃ rv dv : Value, e = .returned (.agg #[rv, dv, .bool false]) ∧ Below w1.heap.size w1 w2 ∧ RefV w2 rv l.length (rfC name l.length) ∧ DoV W.heap.size gp w2 dv v l (rfC name l.length) sd := by
  obtain ⟨A, c, rfl⟩ := Kd.R_slice ho
  have hlt : gp < w1.heap.size := blk_lt hp
  have hle : l.length ≤ 64 := by
    simp only [rightF, Bool.and_eq_true, decide_eq_true_eq] at hok
    exact hok.2
  go_enter Try.func43, Try.ntmps43
  go_wp2
  refine bodyPost_ret (results_cell_row rfl _ _ (w1.heap.size + 2) 63 #[.func (.func 55) #[] #[.pointer (some ⟨w1.heap.size + 1, 0, none⟩), .pointer (some ⟨w1.heap.size, 0, none⟩)], .func (.func 56) #[] #[.pointer (some ⟨w1.heap.size, 0, none⟩), .pointer (some ⟨w1.heap.size + 1, 0, none⟩)], .bool false] (0, 0) _ rfl (new33 w1 _ _ _) Try.underlying63 rfl (by kernel_rfl)) rfl ?_
  refine ⟨_, _, rfl, below_alloc (below_alloc (below_alloc (Below.refl _ _) _) _) _, ⟨55, _, rfl, enters55, fun w3 i b hb3 hil hib => ?_⟩, 56, _, rfl, enters56, fun w3 i b dn fu fa hk hil hib hrf hp3 ho3 => ?_⟩
  · refine calls_of_args (args' := #[.int .i64 (i : Int), .bool b, .pointer (some ⟨w1.heap.size + 1, 0, none⟩), .pointer (some ⟨w1.heap.size, 0, none⟩)]) (by simp) ?_
    have hbb1 := hb3 _ _ _ (by decide) (by decide) (by simp) (new31 w1 _ _ _)
    have hbb2 := hb3 _ _ _ (by decide) (by decide) (by simp) (new32 w1 _ _ _)
    have hpp := hb3 _ _ _ (by decide) (by decide) (by simp) (blk_alloc (blk_alloc (blk_alloc hp _) _) _)
    refine (create_refuse w3 gp w1.heap.size (w1.heap.size + 1) name A l.length c i b (by omega) ((blk_cell hbb2 0).trans rfl) ((blk_cell hbb1 0).trans rfl) ((blk_cell hpp 0).trans rfl)).mono ?_
    rintro e w4 ⟨rfl, rfl⟩
    exact ⟨rfl, Below.refl _ _⟩
  · refine calls_of_args (args' := #[.int .i64 (i : Int), .pointer (some ⟨w1.heap.size, 0, none⟩), .pointer (some ⟨w1.heap.size + 1, 0, none⟩)]) (by simp) ?_
    have hbb1 := hk _ _ _ (by decide) (by decide) (fun h => by injection h with h; omega) (new31 w1 _ _ _)
    have hbb2 := hk _ _ _ (by decide) (by decide) (fun h => by injection h with h; omega) (new32 w1 _ _ _)
    have hsz : W.heap.size ≤ w3.heap.size := by have := blk_lt hp3; omega
    refine (create_do gp w1.heap.size (w1.heap.size + 1) w3 W.heap.size l name A c dn fu fa i hil hle hbb1 hbb2 ⟨hp3, ho3⟩ hsz hgp).mono fun e w4 h => ?_
    rw [hsd i hil]
    exact h

set_option maxHeartbeats 4000000 in
set_option maxRecDepth 100000 in
theorem create_of (W : World) (nb : Nat) (l : List S43) (dn : Bool) (fu fa : Int) (name : ByteArray) (sd : Int → List S43) (hsd : ∀ i : Nat, i ≤ l.length → sd (i : Int) = l.take i ++ [(⟨name, ⟨#[]⟩, 0⟩ : S43)] ++ l.drop i) (hnb : W.heap[nb]? = some (.cells #[.string name] 9 (0, 0))) :
    OfV W 42 #[.pointer (some ⟨nb, 0, none⟩)] l dn fu fa false (rfC name l.length) sd := by
  intro w1 gp v hb hgp hp ho hok
  have hc := (blk_cell (blk_below hnb hb) 0).trans rfl
  refine calls_of_args (args' := #[.pointer (some ⟨gp, 0, none⟩), .pointer (some ⟨nb, 0, none⟩)]) (by simp) ?_
  have HB := Aside0.mk hb
  have HGP := Aside0.mk hgp
  have HP := Aside0.mk hp
  have HO := Aside0.mk ho
  have HOK := Aside0.mk hok
  clear hb hgp hp ho hok hnb
  go_enter Try.func42, Try.ntmps42
  go_wp2_with (first
    | ((with_reducible refine gate_dst (N := 3) rfl ?_);
        refine box_event ?hg (N := 3) ?hd (cs := #[.nilFunc, .nilFunc, .bool false]) (t := 63) ?hr ?_;
        (case hd => rfl); (case hg => rfl); (case hr => first | (go_simp; done) | (go_simp; rfl));
        intro g3 hg w2 hbox hb2;
        have N3 := Aside0.mk (show w1.heap.size ≤ g3 by rw [hg]; exact Nat.le_refl _);
        have hc2 := (hb2.cell (World.block_lt_of_cell? w1 _ hc)).trans hc;
        have HB2 := Aside0.mk hb2; have BK3 := Aside0.mk hbox; clear hg hbox hb2 hc)
    | fail)
  refine ((create_inner W _ gp v l dn fu fa name sd hsd (below_step HB.out HB2.out) HGP.out (blk_below HP.out HB2.out) (Kd.R_below HO.out HB2.out) HOK.out).mono ?_)
  rintro e w4 ⟨rv, dv, rfl, hb4, ⟨Kr, cr, rfl, hKr, hrf⟩, ⟨Kd_, cd, rfl, hKd, hdo⟩⟩
  have HKr := Aside0.mk hKr
  have Hrf := Aside0.mk hrf
  have HKd := Aside0.mk hKd
  have Hdo := Aside0.mk hdo
  have HB4 := Aside0.mk hb4
  have bk := blk_below BK3.out hb4
  have c0 := (blk_cell bk 0).trans rfl
  have c1 := (blk_cell bk 1).trans rfl
  have c2 := (blk_cell bk 2).trans rfl
  have f0 := blk_frozen bk 0
  have f1 := blk_frozen bk 1
  have f2 := blk_frozen bk 2
  have BK4 := Aside0.mk bk
  clear hKr hrf hKd hdo hb4 bk
  go_wp2
  refine bodyPost_ret (results_cell_row rfl _ _ g3 63 #[.func (.func Kr) #[] cr, .func (.func Kd_) #[] cd, .bool false] (0, 0) _ rfl (put3 BK4.out _ _ _) Try.underlying63 rfl (by kernel_rfl)) rfl ?_
  have hw4 : Below w1.heap.size w1 w4 := below_step HB2.out HB4.out
  have hgg : ∀ (k : Nat), k ≠ g3 → (((w4.setCell ⟨g3, 0, none⟩ (.func (.func Kr) #[] cr)).setCell ⟨g3, 1, none⟩ (.func (.func Kd_) #[] cd)).setCell ⟨g3, 2, none⟩ (.bool false)).heap[k]? = w4.heap[k]? := fun k hk =>
    ((Below.heap_setCell _ ⟨g3, 2, none⟩ _ k hk).trans (Below.heap_setCell _ ⟨g3, 1, none⟩ _ k hk)).trans (Below.heap_setCell _ ⟨g3, 0, none⟩ _ k hk)
  refine ⟨_, _, rfl, below3 hw4 N3.out _ _ _, ⟨Kr, cr, rfl, HKr.out, ?_⟩, Kd_, cd, rfl, HKd.out, ?_⟩
  · intro w5 i b hk hil hib
    refine Hrf.out w5 i b (fun k cs t h1 h2 h3 h4 => hk k cs t h1 h2 h3 ?_) hil hib
    rw [hgg k (fun e => by subst e; exact absurd h4 (ne63 BK4.out h1))]
    exact h4
  · intro w5 i b dn fu fa hk
    refine Hdo.out w5 i b dn fu fa (fun k cs t h1 h2 h3 h4 => hk k cs t h1 h2 h3 ?_)
    rw [hgg k (fun e => by subst e; exact absurd h4 (ne63 BK4.out h1))]
    exact h4
end Go.Proofs.Ytanonhipicoigaa.T

namespace Go.Proofs.Ytanonhipicoigaa.T
open Go.RowKit Go.Proofs.YtanonhipicoigaaW.PrintWords Go.Proofs.YtanonhipicoigaaW.PrintLast Go.Proofs.YtanonhipicoigaaW.PrintMore
set_option linter.unusedVariables false
set_option linter.unusedSimpArgs false


/-! ### write -/
theorem ok_get : ∀ (last : List UInt8) (l : List S43) (i : Nat) (x : S43), okFiles last l = true → l[i]? = some x → x.f0.size ≤ 4096 ∧ x.f1.size ≤ 262144 ∧ 0 ≤ x.f2 ∧ x.f2 ≤ (x.f1.size : Int)
  | _, [], i, x, _, h => by simp at h
  | last, y :: l, 0, x, hk, h => by
    obtain rfl : y = x := by simpa using h
    simp only [okFiles, okFile, Bool.and_eq_true, decide_eq_true_eq] at hk
    exact ⟨hk.1.1.1.1.2, hk.1.1.1.2, hk.1.1.2, hk.1.2⟩
  | last, y :: l, i + 1, x, hk, h => by
    simp only [okFiles, Bool.and_eq_true] at hk
    exact ok_get y.f0.toList l i x hk.2 (by simpa using h)
theorem right_get {l : List S43} (h : rightF l = true) {i : Nat} {x : S43} (hx : l[i]? = some x) : x.f0.size ≤ 4096 ∧ x.f1.size ≤ 262144 ∧ 0 ≤ x.f2 ∧ x.f2 ≤ (x.f1.size : Int) := by
  simp only [rightF, Bool.and_eq_true] at h
  exact ok_get [] l i x h.1 hx
theorem rd_get {l : List S43} {i : Nat} {x : S43} (hx : l[i]? = some x) : rd_T43 l (i : Int) = x := by
  simp [rd_T43, List.getD, hx]
/-- What appending refuses. -/
def rfW (data : ByteArray) (l : List S43) (i : Int) (b : Bool) : Int := if b = true then (if 262144 - ((rd_T43 l i).f1.size : Int) < (data.size : Int) then 8 else 0) else 7
theorem enters48 : Enters 48 := fun args w => enters_ Try.func48 (by kernel_rfl) (by kernel_rfl) args w
theorem enters50 : Enters 50 := fun args w => enters_ Try.func50 (by kernel_rfl) (by kernel_rfl) args w
set_option maxHeartbeats 4000000 in
set_option maxRecDepth 100000 in
theorem write_refuse (w : World) (gp b1 b2 g : Nat) (cur : Array Value) (data : ByteArray) (l : List S43) (c : Nat) (i : Nat) (x : S43) (hx : l[i]? = some x) (hsz : x.f1.size ≤ 262144) (hn : l.length ≤ 64) (s3 : w.cell? ⟨b2, 0, none⟩ = some (.string data)) (s1 : w.cell? ⟨b1, 0, none⟩ = some (.pointer (some ⟨gp, 0, none⟩)))
    (s2 : w.cell? ⟨gp, 0, none⟩ = some (.slice (some ⟨g, 0, none⟩) l.length c)) (hh : w.heap[g]? = some (.cells cur 43 (0, 0))) (h6 : cur.toList.take (l.length * 3) = cellsOf l) :
    Calls Try.prog 48 #[.int .i64 (i : Int), .bool true, .pointer (some ⟨b2, 0, none⟩), .pointer (some ⟨b1, 0, none⟩)] w fun e w' => e = .returned (.int .i64 (rfW data l i true)) ∧ Below w.heap.size w w' := by
  have hlt : i < l.length := (List.getElem?_eq_some_iff.1 hx).1
  obtain ⟨e0, e1, e2⟩ := cellsOf_get l i x hx
  have s4 : w.cell? ⟨g, i * 3 + 1, none⟩ = some (.string x.f1) := R_cell hh h6 e1
  have hi0 : (0 : Int) ≤ (i : Int) := by omega
  have hi1 : (i : Int) < (l.length : Int) := by omega
  have hz0 : (x.f1.size : Int) ≤ 262144 := by omega
  obtain ⟨R, hR⟩ : ∃ R, R = rfW data l i true := ⟨_, rfl⟩
  rw [← hR]
  have HR : Aside0 (R = if 262144 - (x.f1.size : Int) < (data.size : Int) then 8 else 0) := ⟨by rw [hR, rfW, if_pos rfl, rd_get hx]⟩
  clear hR hx hh h6 e0 e1 e2 hsz
  go_enter Try.func48, Try.ntmps48
  go_wp2_with (go_at_call 49; refine (there_any _ _ _).mono ?_; rintro e w' ⟨rfl, rfl⟩)
  refine start_ (n := 14) (S := fun w' => w'.cell? ⟨b2, 0, none⟩ = some (.string data) ∧ w'.cell? ⟨b1, 0, none⟩ = some (.pointer (some ⟨gp, 0, none⟩)) ∧ w'.cell? ⟨gp, 0, none⟩ = some (.slice (some ⟨g, 0, none⟩) l.length c) ∧ w'.cell? ⟨g, i * 3 + 1, none⟩ = some (.string x.f1)) (ds := []) #[false, false, false, false, false, false, false, false, false, false, false, false, false, false] (by kernel_rfl) rfl rfl ⟨s3, s1, s2, s4⟩ (fun hHeld => ?_)
  refine pure_ (i := 7) (N := some 21) (v := ?_) (a' := ?_) #[false, false, false, false, false, false, false, true, false, false, false, false, false, false] rfl rfl (by kernel_rfl) (fun _ _ _ h => h) (Or.inl ⟨by rfl, ?_⟩) ?_ ?_
  rotate_left
  · intro w'
    go_simp
    with_reducible rfl
  rotate_left
  · simp only [Act.put, List.setIfInBounds_toArray, List.set_cons_zero, List.set_cons_succ, i64_w, i32_w]
    rfl
  refine take_ (i := 0) (N := some 14) (v := ?_) (a' := ?_) #[true, false, false, false, false, false, false, true, false, false, false, false, false, false] rfl rfl (by kernel_rfl) (fun _ _ _ h => h) (Or.inl ⟨by rfl, ?_⟩) hHeld ?_ ?_
  rotate_left
  · rintro w' ⟨s0, s1, s2, s3⟩
    go_simp
    with_reducible rfl
  rotate_left
  · simp only [Act.put, List.setIfInBounds_toArray, List.set_cons_zero, List.set_cons_succ, i64_w, i32_w]
    rfl
  refine pure_ (i := 1) (N := some 15) (v := ?_) (a' := ?_) #[true, true, false, false, false, false, false, true, false, false, false, false, false, false] rfl rfl (by kernel_rfl) (fun _ _ _ h => h) (Or.inl ⟨by rfl, ?_⟩) ?_ ?_
  rotate_left
  · intro w'
    go_simp
    with_reducible rfl
  rotate_left
  · simp only [Act.put, List.setIfInBounds_toArray, List.set_cons_zero, List.set_cons_succ, i64_w, i32_w]
    rfl
  refine take_ (i := 2) (N := some 16) (v := ?_) (a' := ?_) #[true, true, true, false, false, false, false, true, false, false, false, false, false, false] rfl rfl (by kernel_rfl) (fun _ _ _ h => h) (Or.inl ⟨by rfl, ?_⟩) hHeld ?_ ?_
  rotate_left
  · rintro w' ⟨s0, s1, s2, s3⟩
    go_simp
    with_reducible rfl
  rotate_left
  · simp only [Act.put, List.setIfInBounds_toArray, List.set_cons_zero, List.set_cons_succ, i64_w, i32_w]
    rfl
  refine pure_ (i := 3) (N := some 17) (v := ?_) (a' := ?_) #[true, true, true, true, false, false, false, true, false, false, false, false, false, false] rfl rfl (by kernel_rfl) (fun _ _ _ h => h) (Or.inl ⟨by rfl, ?_⟩) ?_ ?_
  rotate_left
  · intro w'
    go_simp
    with_reducible rfl
  rotate_left
  · simp only [Act.put, List.setIfInBounds_toArray, List.set_cons_zero, List.set_cons_succ, i64_w, i32_w]
    rfl
  refine pure_ (i := 4) (N := some 18) (v := ?_) (a' := ?_) #[true, true, true, true, true, false, false, true, false, false, false, false, false, false] rfl rfl (by kernel_rfl) (fun _ _ _ h => h) (Or.inl ⟨by rfl, ?_⟩) ?_ ?_
  rotate_left
  · intro w'
    go_simp
    with_reducible rfl
  rotate_left
  · simp only [Act.put, List.setIfInBounds_toArray, List.set_cons_zero, List.set_cons_succ, i64_w, i32_w]
    rfl
  refine pure_ (i := 5) (N := some 19) (v := ?_) (a' := ?_) #[true, true, true, true, true, true, false, true, false, false, false, false, false, false] rfl rfl (by kernel_rfl) (fun _ _ _ h => h) (Or.inl ⟨by rfl, ?_⟩) ?_ ?_
  rotate_left
  · intro w'
    go_simp
    with_reducible rfl
  rotate_left
  · simp only [Act.put, List.setIfInBounds_toArray, List.set_cons_zero, List.set_cons_succ, i64_w, i32_w]
    rfl
  refine take_ (i := 6) (N := some 20) (v := ?_) (a' := ?_) #[true, true, true, true, true, true, true, true, false, false, false, false, false, false] rfl rfl (by kernel_rfl) (fun _ _ _ h => h) (Or.inl ⟨by rfl, ?_⟩) hHeld ?_ ?_
  rotate_left
  · rintro w' ⟨s0, s1, s2, s3⟩
    go_simp
    with_reducible rfl
  rotate_left
  · simp only [Act.put, List.setIfInBounds_toArray, List.set_cons_zero, List.set_cons_succ, i64_w, i32_w]
    rfl
  refine pure_ (i := 8) (N := some 22) (v := ?_) (a' := ?_) #[true, true, true, true, true, true, true, true, true, false, false, false, false, false] rfl rfl (by kernel_rfl) (fun _ _ _ h => h) (Or.inl ⟨by rfl, ?_⟩) ?_ ?_
  rotate_left
  · intro w'
    go_simp
    with_reducible rfl
  rotate_left
  · simp only [Act.put, List.setIfInBounds_toArray, List.set_cons_zero, List.set_cons_succ, i64_w, i32_w]
    rfl
  refine pure_ (i := 9) (N := some 23) (v := ?_) (a' := ?_) #[true, true, true, true, true, true, true, true, true, true, false, false, false, false] rfl rfl (by kernel_rfl) (fun _ _ _ h => h) (Or.inl ⟨by rfl, ?_⟩) ?_ ?_
  rotate_left
  · intro w'
    go_simp
    with_reducible rfl
  rotate_left
  · simp only [Act.put, List.setIfInBounds_toArray, List.set_cons_zero, List.set_cons_succ, i64_w, i32_w]
    rfl
  refine take_ (i := 10) (N := some 24) (v := ?_) (a' := ?_) #[true, true, true, true, true, true, true, true, true, true, true, false, false, false] rfl rfl (by kernel_rfl) (fun _ _ _ h => h) (Or.inl ⟨by rfl, ?_⟩) hHeld ?_ ?_
  rotate_left
  · rintro w' ⟨s0, s1, s2, s3⟩
    go_simp
    with_reducible rfl
  rotate_left
  · simp only [Act.put, List.setIfInBounds_toArray, List.set_cons_zero, List.set_cons_succ, i64_w, i32_w]
    rfl
  refine pure_ (i := 11) (N := some 25) (v := ?_) (a' := ?_) #[true, true, true, true, true, true, true, true, true, true, true, true, false, false] rfl rfl (by kernel_rfl) (fun _ _ _ h => h) (Or.inl ⟨by rfl, ?_⟩) ?_ ?_
  rotate_left
  · intro w'
    go_simp
    with_reducible rfl
  rotate_left
  · simp only [Act.put, List.setIfInBounds_toArray, List.set_cons_zero, List.set_cons_succ, i64_w, i32_w]
    rfl
  refine pure_ (i := 12) (N := some 26) (v := ?_) (a' := ?_) #[true, true, true, true, true, true, true, true, true, true, true, true, true, false] rfl rfl (by kernel_rfl) (fun _ _ _ h => h) (Or.inl ⟨by rfl, ?_⟩) ?_ ?_
  rotate_left
  · intro w'
    go_simp
    with_reducible rfl
  rotate_left
  · simp only [Act.put, List.setIfInBounds_toArray, List.set_cons_zero, List.set_cons_succ, i64_w, i32_w]
    rfl
  refine pure_ (i := 13) (N := some 27) (v := ?_) (a' := ?_) #[true, true, true, true, true, true, true, true, true, true, true, true, true, true] rfl rfl (by kernel_rfl) (fun _ _ _ h => h) (Or.inl ⟨by rfl, ?_⟩) ?_ ?_
  rotate_left
  · intro w'
    go_simp
    with_reducible rfl
  rotate_left
  · simp only [Act.put, List.setIfInBounds_toArray, List.set_cons_zero, List.set_cons_succ, i64_w, i32_w]
    rfl
  refine done_ (by kernel_rfl) ?_
  have e : wrap64 (262144 - (x.f1.size : Int)) = 262144 - (x.f1.size : Int) := by unfold wrap64; omega
  rw [e]
  clear e
  by_cases h : 262144 - (x.f1.size : Int) < (data.size : Int)
  · have HE : Aside0 (R = 8) := ⟨by rw [HR.out, if_pos h]⟩
    have hd : decide (262144 - (x.f1.size : Int) < (data.size : Int)) = true := by simpa using h
    rw [hd]
    clear h hd
    go_wp2
    go_ret
    exact ⟨by rw [HE.out]; rfl, below_drew (Below.refl _ _)⟩
  · have HE : Aside0 (R = 0) := ⟨by rw [HR.out, if_neg h]⟩
    have hd : decide (262144 - (x.f1.size : Int) < (data.size : Int)) = false := by simpa using h
    rw [hd]
    clear h hd
    go_wp2
    go_ret
    exact ⟨by rw [HE.out]; rfl, below_drew (Below.refl _ _)⟩
theorem write_unknown (w : World) (v2 v1 : Value) (data : ByteArray) (l : List S43) (i : Int) :
    Calls Try.prog 48 #[.int .i64 i, .bool false, v2, v1] w fun e w' => e = .returned (.int .i64 (rfW data l i false)) ∧ w = w' := by
  go_enter Try.func48, Try.ntmps48
  go_wp2_with (go_at_call 49; refine (there_any _ _ _).mono ?_; rintro e w' ⟨rfl, rfl⟩)
  go_ret
  exact ⟨rfl, rfl⟩
set_option maxHeartbeats 4000000 in
set_option maxRecDepth 100000 in
theorem write_do (gp b1 b2 : Nat) (w : World) (base : Nat) (l : List S43) (data : ByteArray) (A : Option Addr) (c : Nat) (dn : Bool) (fu fa : Int) (i : Nat) (x : S43) (hx : l[i]? = some x) (hsum : x.f1.size + data.size ≤ 262144) (hb1 : w.heap[b1]? = some (.cells #[.pointer (some ⟨gp, 0, none⟩)] 59 (0, 0)))
    (hb2 : w.heap[b2]? = some (.cells #[.string data] 9 (0, 0))) (hp : Plate w base gp (.slice A l.length c) l dn fu fa) :
    Calls Try.prog 50 #[.int .i64 (i : Int), .pointer (some ⟨b1, 0, none⟩), .pointer (some ⟨b2, 0, none⟩)] w (Done w base gp dn fu fa (l.set i ⟨x.f0, x.f1 ++ data, x.f2⟩)) := by
  obtain ⟨hp, ho⟩ := hp
  have hlt : i < l.length := (List.getElem?_eq_some_iff.1 hx).1
  obtain ⟨g, cur, rfl, _, hg, hh, h3, h4, h5, h6⟩ := R_block ho (by omega)
  obtain ⟨e0, e1, e2⟩ := cellsOf_get l i x hx
  have s1 : w.cell? ⟨b1, 0, none⟩ = some (.pointer (some ⟨gp, 0, none⟩)) := (blk_cell hb1 0).trans rfl
  have s2 : w.cell? ⟨gp, 0, none⟩ = some (.slice (some ⟨g, 0, none⟩) l.length c) := (blk_cell hp 0).trans rfl
  have s3 : w.cell? ⟨b2, 0, none⟩ = some (.string data) := (blk_cell hb2 0).trans rfl
  have s4 : w.cell? ⟨g, i * 3 + 1, none⟩ = some (.string x.f1) := R_cell hh h6 e1
  have s5 := blk_frozen hh (i * 3 + 1)
  have ngp : g ≠ gp := other_block hh hp (by decide)
  have HX := Aside0.mk hx
  have HO := Aside0.mk ho
  have HP := Aside0.mk hp
  have HH := Aside0.mk hh
  have NGP := Aside0.mk ngp
  have HG := Aside0.mk hg
  have hi0 : (0 : Int) ≤ (i : Int) := by omega
  have hi1 : (i : Int) < (l.length : Int) := by omega
  have hs9 : (x.f1.size : Int) + (data.size : Int) ≤ 9223372036854775807 := by omega
  have hs8 : ¬ 9223372036854775807 < x.f1.size + data.size := by omega
  clear hx ho hp hh ngp h3 h4 h5 h6 e0 e1 e2 hb1 hg hb2
  go_enter Try.func50, Try.ntmps50
  go_wp2
  refine start_ (n := 14) (S := fun w' => w'.cell? ⟨b1, 0, none⟩ = some (.pointer (some ⟨gp, 0, none⟩)) ∧ w'.cell? ⟨b2, 0, none⟩ = some (.string data) ∧ w'.cell? ⟨gp, 0, none⟩ = some (.slice (some ⟨g, 0, none⟩) l.length c) ∧ w'.cell? ⟨g, i * 3 + 1, none⟩ = some (.string x.f1)) (ds := [13]) #[false, false, false, false, false, false, false, false, false, false, false, false, false, false] (by kernel_rfl) rfl rfl ⟨s1, s3, s2, s4⟩ (fun hHeld => ?_)
  refine pure_ (i := 5) (N := some 9) (v := ?_) (a' := ?_) #[false, false, false, false, false, true, false, false, false, false, false, false, false, false] rfl rfl (by kernel_rfl) (fun _ _ _ h => h) (Or.inl ⟨by rfl, ?_⟩) ?_ ?_
  rotate_left
  · intro w'
    go_simp
    with_reducible rfl
  rotate_left
  · simp only [Act.put, List.setIfInBounds_toArray, List.set_cons_zero, List.set_cons_succ, i64_w, i32_w]
    rfl
  refine take_ (i := 0) (N := some 4) (v := ?_) (a' := ?_) #[true, false, false, false, false, true, false, false, false, false, false, false, false, false] rfl rfl (by kernel_rfl) (fun _ _ _ h => h) (Or.inl ⟨by rfl, ?_⟩) hHeld ?_ ?_
  rotate_left
  · rintro w' ⟨s0, s1, s2, s3⟩
    go_simp
    with_reducible rfl
  rotate_left
  · simp only [Act.put, List.setIfInBounds_toArray, List.set_cons_zero, List.set_cons_succ, i64_w, i32_w]
    rfl
  refine pure_ (i := 1) (N := some 5) (v := ?_) (a' := ?_) #[true, true, false, false, false, true, false, false, false, false, false, false, false, false] rfl rfl (by kernel_rfl) (fun _ _ _ h => h) (Or.inl ⟨by rfl, ?_⟩) ?_ ?_
  rotate_left
  · intro w'
    go_simp
    with_reducible rfl
  rotate_left
  · simp only [Act.put, List.setIfInBounds_toArray, List.set_cons_zero, List.set_cons_succ, i64_w, i32_w]
    rfl
  refine pure_ (i := 2) (N := some 6) (v := ?_) (a' := ?_) #[true, true, true, false, false, true, false, false, false, false, false, false, false, false] rfl rfl (by kernel_rfl) (fun _ _ _ h => h) (Or.inl ⟨by rfl, ?_⟩) ?_ ?_
  rotate_left
  · intro w'
    go_simp
    with_reducible rfl
  rotate_left
  · simp only [Act.put, List.setIfInBounds_toArray, List.set_cons_zero, List.set_cons_succ, i64_w, i32_w]
    rfl
  refine pure_ (i := 3) (N := some 7) (v := ?_) (a' := ?_) #[true, true, true, true, false, true, false, false, false, false, false, false, false, false] rfl rfl (by kernel_rfl) (fun _ _ _ h => h) (Or.inl ⟨by rfl, ?_⟩) ?_ ?_
  rotate_left
  · intro w'
    go_simp
    with_reducible rfl
  rotate_left
  · simp only [Act.put, List.setIfInBounds_toArray, List.set_cons_zero, List.set_cons_succ, i64_w, i32_w]
    rfl
  refine take_ (i := 4) (N := some 8) (v := ?_) (a' := ?_) #[true, true, true, true, true, true, false, false, false, false, false, false, false, false] rfl rfl (by kernel_rfl) (fun _ _ _ h => h) (Or.inl ⟨by rfl, ?_⟩) hHeld ?_ ?_
  rotate_left
  · rintro w' ⟨s0, s1, s2, s3⟩
    go_simp
    with_reducible rfl
  rotate_left
  · simp only [Act.put, List.setIfInBounds_toArray, List.set_cons_zero, List.set_cons_succ, i64_w, i32_w]
    rfl
  refine pure_ (i := 6) (N := some 10) (v := ?_) (a' := ?_) #[true, true, true, true, true, true, true, false, false, false, false, false, false, false] rfl rfl (by kernel_rfl) (fun _ _ _ h => h) (Or.inl ⟨by rfl, ?_⟩) ?_ ?_
  rotate_left
  · intro w'
    go_simp
    with_reducible rfl
  rotate_left
  · simp only [Act.put, List.setIfInBounds_toArray, List.set_cons_zero, List.set_cons_succ, i64_w, i32_w]
    rfl
  refine pure_ (i := 7) (N := some 11) (v := ?_) (a' := ?_) #[true, true, true, true, true, true, true, true, false, false, false, false, false, false] rfl rfl (by kernel_rfl) (fun _ _ _ h => h) (Or.inl ⟨by rfl, ?_⟩) ?_ ?_
  rotate_left
  · intro w'
    go_simp
    with_reducible rfl
  rotate_left
  · simp only [Act.put, List.setIfInBounds_toArray, List.set_cons_zero, List.set_cons_succ, i64_w, i32_w]
    rfl
  refine take_ (i := 8) (N := some 12) (v := ?_) (a' := ?_) #[true, true, true, true, true, true, true, true, true, false, false, false, false, false] rfl rfl (by kernel_rfl) (fun _ _ _ h => h) (Or.inl ⟨by rfl, ?_⟩) hHeld ?_ ?_
  rotate_left
  · rintro w' ⟨s0, s1, s2, s3⟩
    go_simp
    with_reducible rfl
  rotate_left
  · simp only [Act.put, List.setIfInBounds_toArray, List.set_cons_zero, List.set_cons_succ, i64_w, i32_w]
    rfl
  refine take_ (i := 9) (N := some 13) (v := ?_) (a' := ?_) #[true, true, true, true, true, true, true, true, true, true, false, false, false, false] rfl rfl (by kernel_rfl) (fun _ _ _ h => h) (Or.inl ⟨by rfl, ?_⟩) hHeld ?_ ?_
  rotate_left
  · rintro w' ⟨s0, s1, s2, s3⟩
    go_simp
    with_reducible rfl
  rotate_left
  · simp only [Act.put, List.setIfInBounds_toArray, List.set_cons_zero, List.set_cons_succ, i64_w, i32_w]
    rfl
  refine pure_ (i := 10) (N := some 14) (v := ?_) (a' := ?_) #[true, true, true, true, true, true, true, true, true, true, true, false, false, false] rfl rfl (by kernel_rfl) (fun _ _ _ h => h) (Or.inl ⟨by rfl, ?_⟩) ?_ ?_
  rotate_left
  · intro w'
    go_simp
    with_reducible rfl
  rotate_left
  · simp only [Act.put, List.setIfInBounds_toArray, List.set_cons_zero, List.set_cons_succ, i64_w, i32_w]
    rfl
  refine pure_ (i := 11) (N := some 15) (v := ?_) (a' := ?_) #[true, true, true, true, true, true, true, true, true, true, true, true, false, false] rfl rfl (by kernel_rfl) (fun _ _ _ h => h) (Or.inl ⟨by rfl, ?_⟩) ?_ ?_
  rotate_left
  · intro w'
    go_simp
    with_reducible rfl
  rotate_left
  · simp only [Act.put, List.setIfInBounds_toArray, List.set_cons_zero, List.set_cons_succ, i64_w, i32_w]
    rfl
  refine pure_ (i := 12) (N := some 16) (v := ?_) (a' := ?_) #[true, true, true, true, true, true, true, true, true, true, true, true, true, false] rfl rfl (by kernel_rfl) (fun _ _ _ h => h) (Or.inl ⟨by rfl, ?_⟩) ?_ ?_
  rotate_left
  · intro w'
    go_simp
    with_reducible rfl
  rotate_left
  · simp only [Act.put, List.setIfInBounds_toArray, List.set_cons_zero, List.set_cons_succ, i64_w, i32_w]
    rfl
  refine last_ (i := 13) (N := none) #[true, true, true, true, true, true, true, true, true, true, true, true, true, true] rfl rfl (by kernel_rfl) (by decide) (fun K hK => ?_)
  refine skip_ (w1 := ?_) (by rfl) rfl ?_ ?_
  rotate_left
  · go_simp
    rfl
  refine hK.out _ _ ?_
  clear hK K
  refine done_ (by kernel_rfl) ?_
  go_end0
  refine ⟨rfl, .slice (some ⟨g, 0, none⟩) l.length c, blk_drew (blk_far (p := ⟨g, i * 3 + 1, none⟩) HP.out (fun e => NGP.out e.symm) _), ?_, below_drew ((Below.refl base w).setCell HG.out _), fun k cs h => blk_drew (blk_far (p := ⟨g, i * 3 + 1, none⟩) h (other_block h HH.out (by decide)) _)⟩
  have h := R_put (u := .string (x.f1 ++ data)) HO.out (l' := l.set i ⟨x.f0, x.f1 ++ data, x.f2⟩) (by rw [List.length_set]) (cellsOf_set1 l i x _ HX.out) (j := i * 3 + 1) (by omega)
  rw [List.length_set] at h
  exact h

set_option maxHeartbeats 4000000 in
set_option maxRecDepth 100000 in
theorem write_inner (W w1 : World) (gp : Nat) (v : Value) (l : List S43) (dn : Bool) (fu fa : Int) (data : ByteArray) (sd : Int → List S43) (hsd : ∀ (i : Nat) (x : S43), l[i]? = some x → x.f1.size + data.size ≤ 262144 → sd (i : Int) = l.set i ⟨x.f0, x.f1 ++ data, x.f2⟩) (hb : Below W.heap.size W w1) (hgp : W.heap.size ≤ gp) (hp : w1.heap[gp]? = some (.cells #[v, .bool dn, .int .i64 fu, .int .i64 fa] 77 (0, 0)))
    (ho : Kd.R k43 43 w1 W.heap.size (fun _ => True) v l) (hok : rightF l = true) :
    Calls Try.prog 34 #[.pointer (some ⟨gp, 0, none⟩), .string data] w1 fun e w2 => ∃ rv dv : Value, e = .returned (.agg #[rv, dv, .bool true]) ∧ Below w1.heap.size w1 w2 ∧ RefV w2 rv l.length (rfW data l) ∧ DoV W.heap.size gp w2 dv v l (rfW data l) sd := by
  obtain ⟨A, c, rfl⟩ := Kd.R_slice ho
  have hlt : gp < w1.heap.size := blk_lt hp
  have hle : l.length ≤ 64 := by
    simp only [rightF, Bool.and_eq_true, decide_eq_true_eq] at hok
    exact hok.2
  go_enter Try.func34, Try.ntmps34
  go_wp2
  refine bodyPost_ret (results_cell_row rfl _ _ (w1.heap.size + 2) 63 #[.func (.func 48) #[] #[.pointer (some ⟨w1.heap.size + 1, 0, none⟩), .pointer (some ⟨w1.heap.size, 0, none⟩)], .func (.func 50) #[] #[.pointer (some ⟨w1.heap.size, 0, none⟩), .pointer (some ⟨w1.heap.size + 1, 0, none⟩)], .bool true] (0, 0) _ rfl (new33 w1 _ _ _) Try.underlying63 rfl (by kernel_rfl)) rfl ?_
  refine ⟨_, _, rfl, below_alloc (below_alloc (below_alloc (Below.refl _ _) _) _) _, ⟨48, _, rfl, enters48, fun w3 i b hb3 hil hib => ?_⟩, 50, _, rfl, enters50, fun w3 i b dn fu fa hk hil hib hrf hp3 ho3 => ?_⟩
  · refine calls_of_args (args' := #[.int .i64 (i : Int), .bool b, .pointer (some ⟨w1.heap.size + 1, 0, none⟩), .pointer (some ⟨w1.heap.size, 0, none⟩)]) (by simp) ?_
    have hbb1 := hb3 _ _ _ (by decide) (by decide) (by simp) (new31 w1 _ _ _)
    have hbb2 := hb3 _ _ _ (by decide) (by decide) (by simp) (new32 w1 _ _ _)
    have hpp := hb3 _ _ _ (by decide) (by decide) (by simp) (blk_alloc (blk_alloc (blk_alloc hp _) _) _)
    cases b with
    | false =>
      refine (write_unknown w3 _ _ data l i).mono ?_
      rintro e w4 ⟨rfl, rfl⟩
      exact ⟨rfl, Below.refl _ _⟩
    | true =>
      obtain ⟨x, hx⟩ := get_of_lt (hib rfl)
      obtain ⟨g, cur, rfl, _, hg, hh, h3, h4, h5, h6⟩ := R_block ho (by have := hib rfl; omega)
      exact write_refuse w3 gp w1.heap.size (w1.heap.size + 1) g cur data l c i x hx (right_get hok hx).2.1 hle ((blk_cell hbb2 0).trans rfl) ((blk_cell hbb1 0).trans rfl) ((blk_cell hpp 0).trans rfl) (hb3 _ _ _ (by decide) (by decide) (by simp) (blk_alloc (blk_alloc (blk_alloc hh _) _) _)) h6
  · refine calls_of_args (args' := #[.int .i64 (i : Int), .pointer (some ⟨w1.heap.size, 0, none⟩), .pointer (some ⟨w1.heap.size + 1, 0, none⟩)]) (by simp) ?_
    have hbb1 := hk _ _ _ (by decide) (by decide) (fun h => by injection h with h; omega) (new31 w1 _ _ _)
    have hbb2 := hk _ _ _ (by decide) (by decide) (fun h => by injection h with h; omega) (new32 w1 _ _ _)
    have hsz : W.heap.size ≤ w3.heap.size := by have := blk_lt hp3; omega
    have hbt : b = true := by
      cases b
      · simp [rfW] at hrf
      · rfl
    subst hbt
    obtain ⟨x, hx⟩ := get_of_lt (hib rfl)
    have hsum : x.f1.size + data.size ≤ 262144 := by
      rw [rfW, if_pos rfl, rd_get hx] at hrf
      split at hrf
      · cases hrf
      · have := (right_get hok hx).2.1
        omega
    refine (write_do gp w1.heap.size (w1.heap.size + 1) w3 W.heap.size l data A c dn fu fa i x hx hsum hbb1 hbb2 ⟨hp3, ho3⟩).mono fun e w4 h => ?_
    rw [hsd i x hx hsum]
    exact h

set_option maxHeartbeats 4000000 in
set_option maxRecDepth 100000 in
theorem write_of (W : World) (nb : Nat) (l : List S43) (dn : Bool) (fu fa : Int) (data : ByteArray) (sd : Int → List S43) (hsd : ∀ (i : Nat) (x : S43), l[i]? = some x → x.f1.size + data.size ≤ 262144 → sd (i : Int) = l.set i ⟨x.f0, x.f1 ++ data, x.f2⟩) (hnb : W.heap[nb]? = some (.cells #[.string data] 9 (0, 0))) :
    OfV W 33 #[.pointer (some ⟨nb, 0, none⟩)] l dn fu fa true (rfW data l) sd := by
  intro w1 gp v hb hgp hp ho hok
  have hc := (blk_cell (blk_below hnb hb) 0).trans rfl
  refine calls_of_args (args' := #[.pointer (some ⟨gp, 0, none⟩), .pointer (some ⟨nb, 0, none⟩)]) (by simp) ?_
  have HB := Aside0.mk hb
  have HGP := Aside0.mk hgp
  have HP := Aside0.mk hp
  have HO := Aside0.mk ho
  have HOK := Aside0.mk hok
  clear hb hgp hp ho hok hnb
  go_enter Try.func33, Try.ntmps33
  go_wp2_with (first
    | ((with_reducible refine gate_dst (N := 3) rfl ?_);
        refine box_event ?hg (N := 3) ?hd (cs := #[.nilFunc, .nilFunc, .bool false]) (t := 63) ?hr ?_;
        (case hd => rfl); (case hg => rfl); (case hr => first | (go_simp; done) | (go_simp; rfl));
        intro g3 hg w2 hbox hb2;
        have N3 := Aside0.mk (show w1.heap.size ≤ g3 by rw [hg]; exact Nat.le_refl _);
        have hc2 := (hb2.cell (World.block_lt_of_cell? w1 _ hc)).trans hc;
        have HB2 := Aside0.mk hb2; have BK3 := Aside0.mk hbox; clear hg hbox hb2 hc)
    | fail)
  refine ((write_inner W _ gp v l dn fu fa data sd hsd (below_step HB.out HB2.out) HGP.out (blk_below HP.out HB2.out) (Kd.R_below HO.out HB2.out) HOK.out).mono ?_)
  rintro e w4 ⟨rv, dv, rfl, hb4, ⟨Kr, cr, rfl, hKr, hrf⟩, ⟨Kd_, cd, rfl, hKd, hdo⟩⟩
  have HKr := Aside0.mk hKr
  have Hrf := Aside0.mk hrf
  have HKd := Aside0.mk hKd
  have Hdo := Aside0.mk hdo
  have HB4 := Aside0.mk hb4
  have bk := blk_below BK3.out hb4
  have c0 := (blk_cell bk 0).trans rfl
  have c1 := (blk_cell bk 1).trans rfl
  have c2 := (blk_cell bk 2).trans rfl
  have f0 := blk_frozen bk 0
  have f1 := blk_frozen bk 1
  have f2 := blk_frozen bk 2
  have BK4 := Aside0.mk bk
  clear hKr hrf hKd hdo hb4 bk
  go_wp2
  refine bodyPost_ret (results_cell_row rfl _ _ g3 63 #[.func (.func Kr) #[] cr, .func (.func Kd_) #[] cd, .bool true] (0, 0) _ rfl (put3 BK4.out _ _ _) Try.underlying63 rfl (by kernel_rfl)) rfl ?_
  have hw4 : Below w1.heap.size w1 w4 := below_step HB2.out HB4.out
  have hgg : ∀ (k : Nat), k ≠ g3 → (((w4.setCell ⟨g3, 0, none⟩ (.func (.func Kr) #[] cr)).setCell ⟨g3, 1, none⟩ (.func (.func Kd_) #[] cd)).setCell ⟨g3, 2, none⟩ (.bool true)).heap[k]? = w4.heap[k]? := fun k hk =>
    ((Below.heap_setCell _ ⟨g3, 2, none⟩ _ k hk).trans (Below.heap_setCell _ ⟨g3, 1, none⟩ _ k hk)).trans (Below.heap_setCell _ ⟨g3, 0, none⟩ _ k hk)
  refine ⟨_, _, rfl, below3 hw4 N3.out _ _ _, ⟨Kr, cr, rfl, HKr.out, ?_⟩, Kd_, cd, rfl, HKd.out, ?_⟩
  · intro w5 i b hk hil hib
    refine Hrf.out w5 i b (fun k cs t h1 h2 h3 h4 => hk k cs t h1 h2 h3 ?_) hil hib
    rw [hgg k (fun e => by subst e; exact absurd h4 (ne63 BK4.out h1))]
    exact h4
  · intro w5 i b dn fu fa hk
    refine Hdo.out w5 i b dn fu fa (fun k cs t h1 h2 h3 h4 => hk k cs t h1 h2 h3 ?_)
    rw [hgg k (fun e => by subst e; exact absurd h4 (ne63 BK4.out h1))]
    exact h4
end Go.Proofs.Ytanonhipicoigaa.T

namespace Go.Proofs.Ytanonhipicoigaa.T
open Go.RowKit Go.Proofs.YtanonhipicoigaaW.PrintWords Go.Proofs.YtanonhipicoigaaW.PrintLast Go.Proofs.YtanonhipicoigaaW.PrintMore
set_option linter.unusedVariables false
set_option linter.unusedSimpArgs false


/-! ### cut -/
/-- What cutting refuses. -/
def rfT (size : Int) (l : List S43) (i : Int) (b : Bool) : Int := if b = true then (if size < 0 ∨ ((rd_T43 l i).f1.size : Int) < size then 2 else 0) else 7
theorem enters51 : Enters 51 := fun args w => enters_ Try.func51 (by kernel_rfl) (by kernel_rfl) args w
theorem enters52 : Enters 52 := fun args w => enters_ Try.func52 (by kernel_rfl) (by kernel_rfl) args w
theorem cut_unknown (w : World) (v2 v1 : Value) (size : Int) (l : List S43) (i : Int) :
    Calls Try.prog 51 #[.int .i64 i, .bool false, v2, v1] w fun e w' => e = .returned (.int .i64 (rfT size l i false)) ∧ w = w' := by
  go_enter Try.func51, Try.ntmps51
  go_wp2_with (go_at_call 49; refine (there_any _ _ _).mono ?_; rintro e w' ⟨rfl, rfl⟩)
  go_ret
  exact ⟨rfl, rfl⟩
set_option maxHeartbeats 4000000 in
set_option maxRecDepth 100000 in
theorem cut_refuse (w : World) (gp b1 b2 g : Nat) (cur : Array Value) (size : Int) (l : List S43) (c : Nat) (i : Nat) (x : S43) (hx : l[i]? = some x) (hn : l.length ≤ 64) (s3 : w.cell? ⟨b2, 0, none⟩ = some (.int .i64 size)) (s1 : w.cell? ⟨b1, 0, none⟩ = some (.pointer (some ⟨gp, 0, none⟩)))
    (s2 : w.cell? ⟨gp, 0, none⟩ = some (.slice (some ⟨g, 0, none⟩) l.length c)) (hh : w.heap[g]? = some (.cells cur 43 (0, 0))) (h6 : cur.toList.take (l.length * 3) = cellsOf l) :
    Calls Try.prog 51 #[.int .i64 (i : Int), .bool true, .pointer (some ⟨b2, 0, none⟩), .pointer (some ⟨b1, 0, none⟩)] w fun e w' => e = .returned (.int .i64 (rfT size l i true)) ∧ Below w.heap.size w w' := by
  have hlt : i < l.length := (List.getElem?_eq_some_iff.1 hx).1
  obtain ⟨e0, e1, e2⟩ := cellsOf_get l i x hx
  have s4 : w.cell? ⟨g, i * 3 + 1, none⟩ = some (.string x.f1) := R_cell hh h6 e1
  have hi0 : (0 : Int) ≤ (i : Int) := by omega
  have hi1 : (i : Int) < (l.length : Int) := by omega
  obtain ⟨R, hR⟩ : ∃ R, R = rfT size l i true := ⟨_, rfl⟩
  rw [← hR]
  have HR : Aside0 (R = if size < 0 ∨ (x.f1.size : Int) < size then 2 else 0) := ⟨by rw [hR, rfT, if_pos rfl, rd_get hx]⟩
  clear hR hx hh h6 e0 e1 e2
  by_cases hs : size < 0
  · have HE : Aside0 (R = 2) := ⟨by rw [HR.out, if_pos (.inl hs)]⟩
    have hd : decide (size < 0) = true := by simpa using hs
    clear hs
    go_enter Try.func51, Try.ntmps51
    go_wp2_with (go_at_call 49; refine (there_any _ _ _).mono ?_; rintro e w' ⟨rfl, rfl⟩)
    refine start_ (n := 16) (S := fun w' => w'.cell? ⟨b2, 0, none⟩ = some (.int .i64 size) ∧ w'.cell? ⟨b1, 0, none⟩ = some (.pointer (some ⟨gp, 0, none⟩)) ∧ w'.cell? ⟨gp, 0, none⟩ = some (.slice (some ⟨g, 0, none⟩) l.length c) ∧ w'.cell? ⟨g, i * 3 + 1, none⟩ = some (.string x.f1)) (ds := []) #[false, false, false, false, false, false, false, false, false, false, false, false, false, false, false, false] (by kernel_rfl) rfl rfl ⟨s3, s1, s2, s4⟩ (fun hHeld => ?_)
    refine take_ (i := 0) (N := some 14) (v := ?_) (a' := ?_) #[true, false, false, false, false, false, false, false, false, false, false, false, false, false, false, false] rfl rfl (by kernel_rfl) (fun _ _ _ h => h) (Or.inl ⟨by rfl, ?_⟩) hHeld ?_ ?_
    rotate_left
    · rintro w' ⟨s0, s1, s2, s3⟩
      go_simp
      with_reducible rfl
    rotate_left
    · simp only [Act.put, List.setIfInBounds_toArray, List.set_cons_zero, List.set_cons_succ, i64_w, i32_w]
      rfl
    refine pure_ (i := 1) (N := some 15) (v := ?_) (a' := ?_) #[true, true, false, false, false, false, false, false, false, false, false, false, false, false, false, false] rfl rfl (by kernel_rfl) (fun _ _ _ h => h) (Or.inl ⟨by rfl, ?_⟩) ?_ ?_
    rotate_left
    · intro w'
      go_simp
      with_reducible rfl
    rotate_left
    · simp only [Act.put, List.setIfInBounds_toArray, List.set_cons_zero, List.set_cons_succ, i64_w, i32_w]
      rfl
    refine pure_ (i := 2) (N := some 16) (v := ?_) (a' := ?_) #[true, true, true, false, false, false, false, false, false, false, false, false, false, false, false, false] rfl rfl (by kernel_rfl) (fun _ _ _ h => h) (Or.inl ⟨by rfl, ?_⟩) ?_ ?_
    rotate_left
    · intro w'
      go_simp
      with_reducible rfl
    rotate_left
    · simp only [Act.put, List.setIfInBounds_toArray, List.set_cons_zero, List.set_cons_succ, i64_w, i32_w]
      rfl
    refine pure_ (i := 3) (N := some 17) (v := undef) (a' := ?_) #[true, true, true, true, false, false, false, false, false, false, false, false, false, false, false, false] rfl rfl (by kernel_rfl) (fun _ _ _ h => h) (Or.inr ⟨by rfl, rfl⟩) ?_ ?_
    rotate_left
    · simp only [Act.put, List.setIfInBounds_toArray, List.set_cons_zero, List.set_cons_succ, i64_w, i32_w]
      rfl
    refine pure_ (i := 4) (N := some 18) (v := undef) (a' := ?_) #[true, true, true, true, true, false, false, false, false, false, false, false, false, false, false, false] rfl rfl (by kernel_rfl) (fun _ _ _ h => h) (Or.inr ⟨by rfl, rfl⟩) ?_ ?_
    rotate_left
    · simp only [Act.put, List.setIfInBounds_toArray, List.set_cons_zero, List.set_cons_succ, i64_w, i32_w]
      rfl
    refine pure_ (i := 5) (N := some 19) (v := undef) (a' := ?_) #[true, true, true, true, true, true, false, false, false, false, false, false, false, false, false, false] rfl rfl (by kernel_rfl) (fun _ _ _ h => h) (Or.inr ⟨by rfl, rfl⟩) ?_ ?_
    rotate_left
    · simp only [Act.put, List.setIfInBounds_toArray, List.set_cons_zero, List.set_cons_succ, i64_w, i32_w]
      rfl
    refine pure_ (i := 6) (N := some 20) (v := undef) (a' := ?_) #[true, true, true, true, true, true, true, false, false, false, false, false, false, false, false, false] rfl rfl (by kernel_rfl) (fun _ _ _ h => h) (Or.inr ⟨by rfl, rfl⟩) ?_ ?_
    rotate_left
    · simp only [Act.put, List.setIfInBounds_toArray, List.set_cons_zero, List.set_cons_succ, i64_w, i32_w]
      rfl
    refine pure_ (i := 7) (N := some 21) (v := undef) (a' := ?_) #[true, true, true, true, true, true, true, true, false, false, false, false, false, false, false, false] rfl rfl (by kernel_rfl) (fun _ _ _ h => h) (Or.inr ⟨by rfl, rfl⟩) ?_ ?_
    rotate_left
    · simp only [Act.put, List.setIfInBounds_toArray, List.set_cons_zero, List.set_cons_succ, i64_w, i32_w]
      rfl
    refine pure_ (i := 8) (N := some 22) (v := undef) (a' := ?_) #[true, true, true, true, true, true, true, true, true, false, false, false, false, false, false, false] rfl rfl (by kernel_rfl) (fun _ _ _ h => h) (Or.inr ⟨by rfl, rfl⟩) ?_ ?_
    rotate_left
    · simp only [Act.put, List.setIfInBounds_toArray, List.set_cons_zero, List.set_cons_succ, i64_w, i32_w]
      rfl
    refine pure_ (i := 9) (N := some 23) (v := undef) (a' := ?_) #[true, true, true, true, true, true, true, true, true, true, false, false, false, false, false, false] rfl rfl (by kernel_rfl) (fun _ _ _ h => h) (Or.inr ⟨by rfl, rfl⟩) ?_ ?_
    rotate_left
    · simp only [Act.put, List.setIfInBounds_toArray, List.set_cons_zero, List.set_cons_succ, i64_w, i32_w]
      rfl
    refine pure_ (i := 10) (N := some 24) (v := undef) (a' := ?_) #[true, true, true, true, true, true, true, true, true, true, true, false, false, false, false, false] rfl rfl (by kernel_rfl) (fun _ _ _ h => h) (Or.inr ⟨by rfl, rfl⟩) ?_ ?_
    rotate_left
    · simp only [Act.put, List.setIfInBounds_toArray, List.set_cons_zero, List.set_cons_succ, i64_w, i32_w]
      rfl
    refine pure_ (i := 11) (N := some 25) (v := undef) (a' := ?_) #[true, true, true, true, true, true, true, true, true, true, true, true, false, false, false, false] rfl rfl (by kernel_rfl) (fun _ _ _ h => h) (Or.inr ⟨by rfl, rfl⟩) ?_ ?_
    rotate_left
    · simp only [Act.put, List.setIfInBounds_toArray, List.set_cons_zero, List.set_cons_succ, i64_w, i32_w]
      rfl
    refine pure_ (i := 12) (N := some 26) (v := undef) (a' := ?_) #[true, true, true, true, true, true, true, true, true, true, true, true, true, false, false, false] rfl rfl (by kernel_rfl) (fun _ _ _ h => h) (Or.inr ⟨by rfl, rfl⟩) ?_ ?_
    rotate_left
    · simp only [Act.put, List.setIfInBounds_toArray, List.set_cons_zero, List.set_cons_succ, i64_w, i32_w]
      rfl
    refine pure_ (i := 13) (N := some 27) (v := undef) (a' := ?_) #[true, true, true, true, true, true, true, true, true, true, true, true, true, true, false, false] rfl rfl (by kernel_rfl) (fun _ _ _ h => h) (Or.inr ⟨by rfl, rfl⟩) ?_ ?_
    rotate_left
    · simp only [Act.put, List.setIfInBounds_toArray, List.set_cons_zero, List.set_cons_succ, i64_w, i32_w]
      rfl
    refine pure_ (i := 14) (N := some 28) (v := undef) (a' := ?_) #[true, true, true, true, true, true, true, true, true, true, true, true, true, true, true, false] rfl rfl (by kernel_rfl) (fun _ _ _ h => h) (Or.inr ⟨by rfl, rfl⟩) ?_ ?_
    rotate_left
    · simp only [Act.put, List.setIfInBounds_toArray, List.set_cons_zero, List.set_cons_succ, i64_w, i32_w]
      rfl
    refine pure_ (i := 15) (N := some 29) (v := ?_) (a' := ?_) #[true, true, true, true, true, true, true, true, true, true, true, true, true, true, true, true] rfl rfl (by kernel_rfl) (fun _ _ _ h => h) (Or.inl ⟨by rfl, ?_⟩) ?_ ?_
    rotate_left
    · intro w'
      go_simp
      with_reducible rfl
    rotate_left
    · simp only [Act.put, List.setIfInBounds_toArray, List.set_cons_zero, List.set_cons_succ, i64_w, i32_w]
      rfl
    refine done_ (by kernel_rfl) ?_
    go_wp2
    go_ret
    exact ⟨by rw [HE.out]; rfl, below_drew (Below.refl _ _)⟩
  · have hd : decide (size < 0) = false := by simpa using hs
    by_cases hb : (x.f1.size : Int) < size
    · have HE : Aside0 (R = 2) := ⟨by rw [HR.out, if_pos (.inr hb)]⟩
      have hd2 : decide ((x.f1.size : Int) < size) = true := by simpa using hb
      clear hs hb
      go_enter Try.func51, Try.ntmps51
      go_wp2_with (go_at_call 49; refine (there_any _ _ _).mono ?_; rintro e w' ⟨rfl, rfl⟩)
      refine start_ (n := 16) (S := fun w' => w'.cell? ⟨b2, 0, none⟩ = some (.int .i64 size) ∧ w'.cell? ⟨b1, 0, none⟩ = some (.pointer (some ⟨gp, 0, none⟩)) ∧ w'.cell? ⟨gp, 0, none⟩ = some (.slice (some ⟨g, 0, none⟩) l.length c) ∧ w'.cell? ⟨g, i * 3 + 1, none⟩ = some (.string x.f1)) (ds := []) #[false, false, false, false, false, false, false, false, false, false, false, false, false, false, false, false] (by kernel_rfl) rfl rfl ⟨s3, s1, s2, s4⟩ (fun hHeld => ?_)
      refine take_ (i := 0) (N := some 14) (v := ?_) (a' := ?_) #[true, false, false, false, false, false, false, false, false, false, false, false, false, false, false, false] rfl rfl (by kernel_rfl) (fun _ _ _ h => h) (Or.inl ⟨by rfl, ?_⟩) hHeld ?_ ?_
      rotate_left
      · rintro w' ⟨s0, s1, s2, s3⟩
        go_simp
        with_reducible rfl
      rotate_left
      · simp only [Act.put, List.setIfInBounds_toArray, List.set_cons_zero, List.set_cons_succ, i64_w, i32_w]
        rfl
      refine pure_ (i := 1) (N := some 15) (v := ?_) (a' := ?_) #[true, true, false, false, false, false, false, false, false, false, false, false, false, false, false, false] rfl rfl (by kernel_rfl) (fun _ _ _ h => h) (Or.inl ⟨by rfl, ?_⟩) ?_ ?_
      rotate_left
      · intro w'
        go_simp
        with_reducible rfl
      rotate_left
      · simp only [Act.put, List.setIfInBounds_toArray, List.set_cons_zero, List.set_cons_succ, i64_w, i32_w]
        rfl
      refine pure_ (i := 2) (N := some 16) (v := ?_) (a' := ?_) #[true, true, true, false, false, false, false, false, false, false, false, false, false, false, false, false] rfl rfl (by kernel_rfl) (fun _ _ _ h => h) (Or.inl ⟨by rfl, ?_⟩) ?_ ?_
      rotate_left
      · intro w'
        go_simp
        with_reducible rfl
      rotate_left
      · simp only [Act.put, List.setIfInBounds_toArray, List.set_cons_zero, List.set_cons_succ, i64_w, i32_w]
        rfl
      refine pure_ (i := 9) (N := some 23) (v := ?_) (a' := ?_) #[true, true, true, false, false, false, false, false, false, true, false, false, false, false, false, false] rfl rfl (by kernel_rfl) (fun _ _ _ h => h) (Or.inl ⟨by rfl, ?_⟩) ?_ ?_
      rotate_left
      · intro w'
        go_simp
        with_reducible rfl
      rotate_left
      · simp only [Act.put, List.setIfInBounds_toArray, List.set_cons_zero, List.set_cons_succ, i64_w, i32_w]
        rfl
      refine take_ (i := 3) (N := some 17) (v := ?_) (a' := ?_) #[true, true, true, true, false, false, false, false, false, true, false, false, false, false, false, false] rfl rfl (by kernel_rfl) (fun _ _ _ h => h) (Or.inl ⟨by rfl, ?_⟩) hHeld ?_ ?_
      rotate_left
      · rintro w' ⟨s0, s1, s2, s3⟩
        go_simp
        with_reducible rfl
      rotate_left
      · simp only [Act.put, List.setIfInBounds_toArray, List.set_cons_zero, List.set_cons_succ, i64_w, i32_w]
        rfl
      refine take_ (i := 4) (N := some 18) (v := ?_) (a' := ?_) #[true, true, true, true, true, false, false, false, false, true, false, false, false, false, false, false] rfl rfl (by kernel_rfl) (fun _ _ _ h => h) (Or.inl ⟨by rfl, ?_⟩) hHeld ?_ ?_
      rotate_left
      · rintro w' ⟨s0, s1, s2, s3⟩
        go_simp
        with_reducible rfl
      rotate_left
      · simp only [Act.put, List.setIfInBounds_toArray, List.set_cons_zero, List.set_cons_succ, i64_w, i32_w]
        rfl
      refine pure_ (i := 5) (N := some 19) (v := ?_) (a' := ?_) #[true, true, true, true, true, true, false, false, false, true, false, false, false, false, false, false] rfl rfl (by kernel_rfl) (fun _ _ _ h => h) (Or.inl ⟨by rfl, ?_⟩) ?_ ?_
      rotate_left
      · intro w'
        go_simp
        with_reducible rfl
      rotate_left
      · simp only [Act.put, List.setIfInBounds_toArray, List.set_cons_zero, List.set_cons_succ, i64_w, i32_w]
        rfl
      refine pure_ (i := 6) (N := some 20) (v := ?_) (a' := ?_) #[true, true, true, true, true, true, true, false, false, true, false, false, false, false, false, false] rfl rfl (by kernel_rfl) (fun _ _ _ h => h) (Or.inl ⟨by rfl, ?_⟩) ?_ ?_
      rotate_left
      · intro w'
        go_simp
        with_reducible rfl
      rotate_left
      · simp only [Act.put, List.setIfInBounds_toArray, List.set_cons_zero, List.set_cons_succ, i64_w, i32_w]
        rfl
      refine pure_ (i := 7) (N := some 21) (v := ?_) (a' := ?_) #[true, true, true, true, true, true, true, true, false, true, false, false, false, false, false, false] rfl rfl (by kernel_rfl) (fun _ _ _ h => h) (Or.inl ⟨by rfl, ?_⟩) ?_ ?_
      rotate_left
      · intro w'
        go_simp
        with_reducible rfl
      rotate_left
      · simp only [Act.put, List.setIfInBounds_toArray, List.set_cons_zero, List.set_cons_succ, i64_w, i32_w]
        rfl
      refine take_ (i := 8) (N := some 22) (v := ?_) (a' := ?_) #[true, true, true, true, true, true, true, true, true, true, false, false, false, false, false, false] rfl rfl (by kernel_rfl) (fun _ _ _ h => h) (Or.inl ⟨by rfl, ?_⟩) hHeld ?_ ?_
      rotate_left
      · rintro w' ⟨s0, s1, s2, s3⟩
        go_simp
        with_reducible rfl
      rotate_left
      · simp only [Act.put, List.setIfInBounds_toArray, List.set_cons_zero, List.set_cons_succ, i64_w, i32_w]
        rfl
      refine pure_ (i := 10) (N := some 24) (v := ?_) (a' := ?_) #[true, true, true, true, true, true, true, true, true, true, true, false, false, false, false, false] rfl rfl (by kernel_rfl) (fun _ _ _ h => h) (Or.inl ⟨by rfl, ?_⟩) ?_ ?_
      rotate_left
      · intro w'
        go_simp
        with_reducible rfl
      rotate_left
      · simp only [Act.put, List.setIfInBounds_toArray, List.set_cons_zero, List.set_cons_succ, i64_w, i32_w]
        rfl
      refine pure_ (i := 11) (N := some 25) (v := ?_) (a' := ?_) #[true, true, true, true, true, true, true, true, true, true, true, true, false, false, false, false] rfl rfl (by kernel_rfl) (fun _ _ _ h => h) (Or.inl ⟨by rfl, ?_⟩) ?_ ?_
      rotate_left
      · intro w'
        go_simp
        with_reducible rfl
      rotate_left
      · simp only [Act.put, List.setIfInBounds_toArray, List.set_cons_zero, List.set_cons_succ, i64_w, i32_w]
        rfl
      refine take_ (i := 12) (N := some 26) (v := ?_) (a' := ?_) #[true, true, true, true, true, true, true, true, true, true, true, true, true, false, false, false] rfl rfl (by kernel_rfl) (fun _ _ _ h => h) (Or.inl ⟨by rfl, ?_⟩) hHeld ?_ ?_
      rotate_left
      · rintro w' ⟨s0, s1, s2, s3⟩
        go_simp
        with_reducible rfl
      rotate_left
      · simp only [Act.put, List.setIfInBounds_toArray, List.set_cons_zero, List.set_cons_succ, i64_w, i32_w]
        rfl
      refine pure_ (i := 13) (N := some 27) (v := ?_) (a' := ?_) #[true, true, true, true, true, true, true, true, true, true, true, true, true, true, false, false] rfl rfl (by kernel_rfl) (fun _ _ _ h => h) (Or.inl ⟨by rfl, ?_⟩) ?_ ?_
      rotate_left
      · intro w'
        go_simp
        with_reducible rfl
      rotate_left
      · simp only [Act.put, List.setIfInBounds_toArray, List.set_cons_zero, List.set_cons_succ, i64_w, i32_w]
        rfl
      refine pure_ (i := 14) (N := some 28) (v := ?_) (a' := ?_) #[true, true, true, true, true, true, true, true, true, true, true, true, true, true, true, false] rfl rfl (by kernel_rfl) (fun _ _ _ h => h) (Or.inl ⟨by rfl, ?_⟩) ?_ ?_
      rotate_left
      · intro w'
        go_simp
        with_reducible rfl
      rotate_left
      · simp only [Act.put, List.setIfInBounds_toArray, List.set_cons_zero, List.set_cons_succ, i64_w, i32_w]
        rfl
      refine pure_ (i := 15) (N := some 29) (v := ?_) (a' := ?_) #[true, true, true, true, true, true, true, true, true, true, true, true, true, true, true, true] rfl rfl (by kernel_rfl) (fun _ _ _ h => h) (Or.inl ⟨by rfl, ?_⟩) ?_ ?_
      rotate_left
      · intro w'
        go_simp
        with_reducible rfl
      rotate_left
      · simp only [Act.put, List.setIfInBounds_toArray, List.set_cons_zero, List.set_cons_succ, i64_w, i32_w]
        rfl
      refine done_ (by kernel_rfl) ?_
      go_wp2
      go_ret
      exact ⟨by rw [HE.out]; rfl, below_drew (Below.refl _ _)⟩
    · have HE : Aside0 (R = 0) := ⟨by rw [HR.out, if_neg (by rintro (h | h) <;> contradiction)]⟩
      have hd2 : decide ((x.f1.size : Int) < size) = false := by simpa using hb
      clear hs hb
      go_enter Try.func51, Try.ntmps51
      go_wp2_with (go_at_call 49; refine (there_any _ _ _).mono ?_; rintro e w' ⟨rfl, rfl⟩)
      refine start_ (n := 16) (S := fun w' => w'.cell? ⟨b2, 0, none⟩ = some (.int .i64 size) ∧ w'.cell? ⟨b1, 0, none⟩ = some (.pointer (some ⟨gp, 0, none⟩)) ∧ w'.cell? ⟨gp, 0, none⟩ = some (.slice (some ⟨g, 0, none⟩) l.length c) ∧ w'.cell? ⟨g, i * 3 + 1, none⟩ = some (.string x.f1)) (ds := []) #[false, false, false, false, false, false, false, false, false, false, false, false, false, false, false, false] (by kernel_rfl) rfl rfl ⟨s3, s1, s2, s4⟩ (fun hHeld => ?_)
      refine take_ (i := 0) (N := some 14) (v := ?_) (a' := ?_) #[true, false, false, false, false, false, false, false, false, false, false, false, false, false, false, false] rfl rfl (by kernel_rfl) (fun _ _ _ h => h) (Or.inl ⟨by rfl, ?_⟩) hHeld ?_ ?_
      rotate_left
      · rintro w' ⟨s0, s1, s2, s3⟩
        go_simp
        with_reducible rfl
      rotate_left
      · simp only [Act.put, List.setIfInBounds_toArray, List.set_cons_zero, List.set_cons_succ, i64_w, i32_w]
        rfl
      refine pure_ (i := 1) (N := some 15) (v := ?_) (a' := ?_) #[true, true, false, false, false, false, false, false, false, false, false, false, false, false, false, false] rfl rfl (by kernel_rfl) (fun _ _ _ h => h) (Or.inl ⟨by rfl, ?_⟩) ?_ ?_
      rotate_left
      · intro w'
        go_simp
        with_reducible rfl
      rotate_left
      · simp only [Act.put, List.setIfInBounds_toArray, List.set_cons_zero, List.set_cons_succ, i64_w, i32_w]
        rfl
      refine pure_ (i := 2) (N := some 16) (v := ?_) (a' := ?_) #[true, true, true, false, false, false, false, false, false, false, false, false, false, false, false, false] rfl rfl (by kernel_rfl) (fun _ _ _ h => h) (Or.inl ⟨by rfl, ?_⟩) ?_ ?_
      rotate_left
      · intro w'
        go_simp
        with_reducible rfl
      rotate_left
      · simp only [Act.put, List.setIfInBounds_toArray, List.set_cons_zero, List.set_cons_succ, i64_w, i32_w]
        rfl
      refine pure_ (i := 9) (N := some 23) (v := ?_) (a' := ?_) #[true, true, true, false, false, false, false, false, false, true, false, false, false, false, false, false] rfl rfl (by kernel_rfl) (fun _ _ _ h => h) (Or.inl ⟨by rfl, ?_⟩) ?_ ?_
      rotate_left
      · intro w'
        go_simp
        with_reducible rfl
      rotate_left
      · simp only [Act.put, List.setIfInBounds_toArray, List.set_cons_zero, List.set_cons_succ, i64_w, i32_w]
        rfl
      refine take_ (i := 3) (N := some 17) (v := ?_) (a' := ?_) #[true, true, true, true, false, false, false, false, false, true, false, false, false, false, false, false] rfl rfl (by kernel_rfl) (fun _ _ _ h => h) (Or.inl ⟨by rfl, ?_⟩) hHeld ?_ ?_
      rotate_left
      · rintro w' ⟨s0, s1, s2, s3⟩
        go_simp
        with_reducible rfl
      rotate_left
      · simp only [Act.put, List.setIfInBounds_toArray, List.set_cons_zero, List.set_cons_succ, i64_w, i32_w]
        rfl
      refine take_ (i := 4) (N := some 18) (v := ?_) (a' := ?_) #[true, true, true, true, true, false, false, false, false, true, false, false, false, false, false, false] rfl rfl (by kernel_rfl) (fun _ _ _ h => h) (Or.inl ⟨by rfl, ?_⟩) hHeld ?_ ?_
      rotate_left
      · rintro w' ⟨s0, s1, s2, s3⟩
        go_simp
        with_reducible rfl
      rotate_left
      · simp only [Act.put, List.setIfInBounds_toArray, List.set_cons_zero, List.set_cons_succ, i64_w, i32_w]
        rfl
      refine pure_ (i := 5) (N := some 19) (v := ?_) (a' := ?_) #[true, true, true, true, true, true, false, false, false, true, false, false, false, false, false, false] rfl rfl (by kernel_rfl) (fun _ _ _ h => h) (Or.inl ⟨by rfl, ?_⟩) ?_ ?_
      rotate_left
      · intro w'
        go_simp
        with_reducible rfl
      rotate_left
      · simp only [Act.put, List.setIfInBounds_toArray, List.set_cons_zero, List.set_cons_succ, i64_w, i32_w]
        rfl
      refine pure_ (i := 6) (N := some 20) (v := ?_) (a' := ?_) #[true, true, true, true, true, true, true, false, false, true, false, false, false, false, false, false] rfl rfl (by kernel_rfl) (fun _ _ _ h => h) (Or.inl ⟨by rfl, ?_⟩) ?_ ?_
      rotate_left
      · intro w'
        go_simp
        with_reducible rfl
      rotate_left
      · simp only [Act.put, List.setIfInBounds_toArray, List.set_cons_zero, List.set_cons_succ, i64_w, i32_w]
        rfl
      refine pure_ (i := 7) (N := some 21) (v := ?_) (a' := ?_) #[true, true, true, true, true, true, true, true, false, true, false, false, false, false, false, false] rfl rfl (by kernel_rfl) (fun _ _ _ h => h) (Or.inl ⟨by rfl, ?_⟩) ?_ ?_
      rotate_left
      · intro w'
        go_simp
        with_reducible rfl
      rotate_left
      · simp only [Act.put, List.setIfInBounds_toArray, List.set_cons_zero, List.set_cons_succ, i64_w, i32_w]
        rfl
      refine take_ (i := 8) (N := some 22) (v := ?_) (a' := ?_) #[true, true, true, true, true, true, true, true, true, true, false, false, false, false, false, false] rfl rfl (by kernel_rfl) (fun _ _ _ h => h) (Or.inl ⟨by rfl, ?_⟩) hHeld ?_ ?_
      rotate_left
      · rintro w' ⟨s0, s1, s2, s3⟩
        go_simp
        with_reducible rfl
      rotate_left
      · simp only [Act.put, List.setIfInBounds_toArray, List.set_cons_zero, List.set_cons_succ, i64_w, i32_w]
        rfl
      refine pure_ (i := 10) (N := some 24) (v := ?_) (a' := ?_) #[true, true, true, true, true, true, true, true, true, true, true, false, false, false, false, false] rfl rfl (by kernel_rfl) (fun _ _ _ h => h) (Or.inl ⟨by rfl, ?_⟩) ?_ ?_
      rotate_left
      · intro w'
        go_simp
        with_reducible rfl
      rotate_left
      · simp only [Act.put, List.setIfInBounds_toArray, List.set_cons_zero, List.set_cons_succ, i64_w, i32_w]
        rfl
      refine pure_ (i := 11) (N := some 25) (v := ?_) (a' := ?_) #[true, true, true, true, true, true, true, true, true, true, true, true, false, false, false, false] rfl rfl (by kernel_rfl) (fun _ _ _ h => h) (Or.inl ⟨by rfl, ?_⟩) ?_ ?_
      rotate_left
      · intro w'
        go_simp
        with_reducible rfl
      rotate_left
      · simp only [Act.put, List.setIfInBounds_toArray, List.set_cons_zero, List.set_cons_succ, i64_w, i32_w]
        rfl
      refine take_ (i := 12) (N := some 26) (v := ?_) (a' := ?_) #[true, true, true, true, true, true, true, true, true, true, true, true, true, false, false, false] rfl rfl (by kernel_rfl) (fun _ _ _ h => h) (Or.inl ⟨by rfl, ?_⟩) hHeld ?_ ?_
      rotate_left
      · rintro w' ⟨s0, s1, s2, s3⟩
        go_simp
        with_reducible rfl
      rotate_left
      · simp only [Act.put, List.setIfInBounds_toArray, List.set_cons_zero, List.set_cons_succ, i64_w, i32_w]
        rfl
      refine pure_ (i := 13) (N := some 27) (v := ?_) (a' := ?_) #[true, true, true, true, true, true, true, true, true, true, true, true, true, true, false, false] rfl rfl (by kernel_rfl) (fun _ _ _ h => h) (Or.inl ⟨by rfl, ?_⟩) ?_ ?_
      rotate_left
      · intro w'
        go_simp
        with_reducible rfl
      rotate_left
      · simp only [Act.put, List.setIfInBounds_toArray, List.set_cons_zero, List.set_cons_succ, i64_w, i32_w]
        rfl
      refine pure_ (i := 14) (N := some 28) (v := ?_) (a' := ?_) #[true, true, true, true, true, true, true, true, true, true, true, true, true, true, true, false] rfl rfl (by kernel_rfl) (fun _ _ _ h => h) (Or.inl ⟨by rfl, ?_⟩) ?_ ?_
      rotate_left
      · intro w'
        go_simp
        with_reducible rfl
      rotate_left
      · simp only [Act.put, List.setIfInBounds_toArray, List.set_cons_zero, List.set_cons_succ, i64_w, i32_w]
        rfl
      refine pure_ (i := 15) (N := some 29) (v := ?_) (a' := ?_) #[true, true, true, true, true, true, true, true, true, true, true, true, true, true, true, true] rfl rfl (by kernel_rfl) (fun _ _ _ h => h) (Or.inl ⟨by rfl, ?_⟩) ?_ ?_
      rotate_left
      · intro w'
        go_simp
        with_reducible rfl
      rotate_left
      · simp only [Act.put, List.setIfInBounds_toArray, List.set_cons_zero, List.set_cons_succ, i64_w, i32_w]
        rfl
      refine done_ (by kernel_rfl) ?_
      go_wp2
      go_ret
      exact ⟨by rw [HE.out]; rfl, below_drew (Below.refl _ _)⟩
set_option maxHeartbeats 4000000 in
set_option maxRecDepth 100000 in
theorem cut_do (gp b1 b2 : Nat) (w : World) (base : Nat) (l : List S43) (size : Nat) (A : Option Addr) (c : Nat) (dn : Bool) (fu fa : Int) (i : Nat) (x : S43) (hx : l[i]? = some x) (hsz : size ≤ x.f1.size) (hn : l.length ≤ 64) (hs1 : x.f1.size ≤ 262144) (hb1 : w.heap[b1]? = some (.cells #[.pointer (some ⟨gp, 0, none⟩)] 59 (0, 0)))
    (hb2 : w.heap[b2]? = some (.cells #[.int .i64 (size : Int)] 3 (0, 0))) (hp : Plate w base gp (.slice A l.length c) l dn fu fa) :
    Calls Try.prog 52 #[.int .i64 (i : Int), .pointer (some ⟨b1, 0, none⟩), .pointer (some ⟨b2, 0, none⟩)] w (Done w base gp dn fu fa (l.set i ⟨x.f0, x.f1.extract 0 size, (size : Int)⟩)) := by
  obtain ⟨hp, ho⟩ := hp
  have hlt : i < l.length := (List.getElem?_eq_some_iff.1 hx).1
  obtain ⟨g, cur, rfl, _, hg, hh, h3, h4, h5, h6⟩ := R_block ho (by omega)
  obtain ⟨e0, e1, e2⟩ := cellsOf_get l i x hx
  have s1 : w.cell? ⟨b1, 0, none⟩ = some (.pointer (some ⟨gp, 0, none⟩)) := (blk_cell hb1 0).trans rfl
  have s2 : w.cell? ⟨gp, 0, none⟩ = some (.slice (some ⟨g, 0, none⟩) l.length c) := (blk_cell hp 0).trans rfl
  have s3 : w.cell? ⟨b2, 0, none⟩ = some (.int .i64 (size : Int)) := (blk_cell hb2 0).trans rfl
  have s4 : w.cell? ⟨g, i * 3 + 1, none⟩ = some (.string x.f1) := R_cell hh h6 e1
  have s6 : w.cell? ⟨g, i * 3 + 2, none⟩ = some (.int .i64 x.f2) := R_cell hh h6 e2
  have s5 := blk_frozen hh (i * 3 + 1)
  have s7 := blk_frozen hh (i * 3 + 2)
  have ngp : g ≠ gp := other_block hh hp (by decide)
  have HX := Aside0.mk hx
  have HO := Aside0.mk ho
  have HP := Aside0.mk hp
  have HH := Aside0.mk hh
  have NGP := Aside0.mk ngp
  have HG := Aside0.mk hg
  have hi0 : (0 : Int) ≤ (i : Int) := by omega
  have hi1 : (i : Int) < (l.length : Int) := by omega
  have hz1 : (0 : Int) ≤ (size : Int) := by omega
  have hz2 : (size : Int) ≤ (x.f1.size : Int) := by omega
  clear hx ho hp hh ngp h3 h4 h5 h6 e0 e1 e2 hb1 hg hb2
  go_enter Try.func52, Try.ntmps52
  go_wp2
  go_region
  go_end0
  have h1 := R_put (u := .string (x.f1.extract 0 size)) HO.out (l' := l.set i ⟨x.f0, x.f1.extract 0 size, x.f2⟩) (by rw [List.length_set]) (cellsOf_set1 l i x _ HX.out) (j := i * 3 + 1) (by omega)
  have hx2 : (l.set i ⟨x.f0, x.f1.extract 0 size, x.f2⟩)[i]? = some (⟨x.f0, x.f1.extract 0 size, x.f2⟩ : S43) := by simp [hlt]
  have h2 := R_put (u := .int .i64 (size : Int)) h1 (l' := l.set i ⟨x.f0, x.f1.extract 0 size, (size : Int)⟩) (by rw [List.length_set, List.length_set]) (by
    have := cellsOf_set2 _ i _ (size : Int) hx2
    rw [this, List.set_set]) (j := i * 3 + 2) (by rw [List.length_set]; omega)
  rw [List.length_set] at h2
  refine ⟨rfl, .slice (some ⟨g, 0, none⟩) l.length c, blk_drew (blk_far (p := ⟨g, i * 3 + 2, none⟩) (blk_far (p := ⟨g, i * 3 + 1, none⟩) HP.out (fun e => NGP.out e.symm) _) (fun e => NGP.out e.symm) _), h2, below_drew (((Below.refl base w).setCell HG.out _).setCell HG.out _), fun k cs h => ?_⟩
  have hk := other_block h HH.out (by decide)
  exact blk_drew (blk_far (p := ⟨g, i * 3 + 2, none⟩) (blk_far (p := ⟨g, i * 3 + 1, none⟩) h hk _) hk _)

set_option maxHeartbeats 4000000 in
set_option maxRecDepth 100000 in
theorem cut_inner (W w1 : World) (gp : Nat) (v : Value) (l : List S43) (dn : Bool) (fu fa : Int) (size : Int) (sd : Int → List S43) (hsd : ∀ (i n : Nat) (x : S43), l[i]? = some x → size = (n : Int) → n ≤ x.f1.size → sd (i : Int) = l.set i ⟨x.f0, x.f1.extract 0 n, (n : Int)⟩) (hb : Below W.heap.size W w1) (hgp : W.heap.size ≤ gp) (hp : w1.heap[gp]? = some (.cells #[v, .bool dn, .int .i64 fu, .int .i64 fa] 77 (0, 0)))
    (ho : Kd.R k43 43 w1 W.heap.size (fun _ => True) v l) (hok : rightF l = true) :
    Calls Try.prog 36 #[.pointer (some ⟨gp, 0, none⟩), .int .i64 size] w1 fun e w2 => ∃ rv dv : Value, e = .returned (.agg #[rv, dv, .bool false]) ∧ Below w1.heap.size w1 w2 ∧ RefV w2 rv l.length (rfT size l) ∧ DoV W.heap.size gp w2 dv v l (rfT size l) sd := by
  obtain ⟨A, c, rfl⟩ := Kd.R_slice ho
  have hlt : gp < w1.heap.size := blk_lt hp
  have hle : l.length ≤ 64 := by
    simp only [rightF, Bool.and_eq_true, decide_eq_true_eq] at hok
    exact hok.2
  go_enter Try.func36, Try.ntmps36
  go_wp2
  refine bodyPost_ret (results_cell_row rfl _ _ (w1.heap.size + 2) 63 #[.func (.func 51) #[] #[.pointer (some ⟨w1.heap.size + 1, 0, none⟩), .pointer (some ⟨w1.heap.size, 0, none⟩)], .func (.func 52) #[] #[.pointer (some ⟨w1.heap.size, 0, none⟩), .pointer (some ⟨w1.heap.size + 1, 0, none⟩)], .bool false] (0, 0) _ rfl (new33 w1 _ _ _) Try.underlying63 rfl (by kernel_rfl)) rfl ?_
  refine ⟨_, _, rfl, below_alloc (below_alloc (below_alloc (Below.refl _ _) _) _) _, ⟨51, _, rfl, enters51, fun w3 i b hb3 hil hib => ?_⟩, 52, _, rfl, enters52, fun w3 i b dn fu fa hk hil hib hrf hp3 ho3 => ?_⟩
  · refine calls_of_args (args' := #[.int .i64 (i : Int), .bool b, .pointer (some ⟨w1.heap.size + 1, 0, none⟩), .pointer (some ⟨w1.heap.size, 0, none⟩)]) (by simp) ?_
    have hbb1 := hb3 _ _ _ (by decide) (by decide) (by simp) (new31 w1 _ _ _)
    have hbb2 := hb3 _ _ _ (by decide) (by decide) (by simp) (new32 w1 _ _ _)
    have hpp := hb3 _ _ _ (by decide) (by decide) (by simp) (blk_alloc (blk_alloc (blk_alloc hp _) _) _)
    cases b with
    | false =>
      refine (cut_unknown w3 _ _ size l i).mono ?_
      rintro e w4 ⟨rfl, rfl⟩
      exact ⟨rfl, Below.refl _ _⟩
    | true =>
      obtain ⟨x, hx⟩ := get_of_lt (hib rfl)
      obtain ⟨g, cur, rfl, _, hg, hh, h3, h4, h5, h6⟩ := R_block ho (by have := hib rfl; omega)
      exact cut_refuse w3 gp w1.heap.size (w1.heap.size + 1) g cur size l c i x hx hle ((blk_cell hbb2 0).trans rfl) ((blk_cell hbb1 0).trans rfl) ((blk_cell hpp 0).trans rfl) (hb3 _ _ _ (by decide) (by decide) (by simp) (blk_alloc (blk_alloc (blk_alloc hh _) _) _)) h6
  · refine calls_of_args (args' := #[.int .i64 (i : Int), .pointer (some ⟨w1.heap.size, 0, none⟩), .pointer (some ⟨w1.heap.size + 1, 0, none⟩)]) (by simp) ?_
    have hbb1 := hk _ _ _ (by decide) (by decide) (fun h => by injection h with h; omega) (new31 w1 _ _ _)
    have hbb2 := hk _ _ _ (by decide) (by decide) (fun h => by injection h with h; omega) (new32 w1 _ _ _)
    have hsz : W.heap.size ≤ w3.heap.size := by have := blk_lt hp3; omega
    have hbt : b = true := by
      cases b
      · simp [rfT] at hrf
      · rfl
    subst hbt
    obtain ⟨x, hx⟩ := get_of_lt (hib rfl)
    rw [rfT, if_pos rfl, rd_get hx] at hrf
    split at hrf
    · cases hrf
    rename_i hno
    obtain ⟨n, rfl⟩ : ∃ n : Nat, size = (n : Int) := ⟨size.toNat, by omega⟩
    have hn : n ≤ x.f1.size := by omega
    refine (cut_do gp w1.heap.size (w1.heap.size + 1) w3 W.heap.size l n A c dn fu fa i x hx hn hle (right_get hok hx).2.1 hbb1 hbb2 ⟨hp3, ho3⟩).mono fun e w4 h => ?_
    rw [hsd i n x hx rfl hn]
    exact h

set_option maxHeartbeats 4000000 in
set_option maxRecDepth 100000 in
theorem cut_of (W : World) (nb : Nat) (l : List S43) (dn : Bool) (fu fa : Int) (size : Int) (sd : Int → List S43) (hsd : ∀ (i n : Nat) (x : S43), l[i]? = some x → size = (n : Int) → n ≤ x.f1.size → sd (i : Int) = l.set i ⟨x.f0, x.f1.extract 0 n, (n : Int)⟩) (hnb : W.heap[nb]? = some (.cells #[.int .i64 size] 3 (0, 0))) :
    OfV W 35 #[.pointer (some ⟨nb, 0, none⟩)] l dn fu fa false (rfT size l) sd := by
  intro w1 gp v hb hgp hp ho hok
  have hc := (blk_cell (blk_below hnb hb) 0).trans rfl
  refine calls_of_args (args' := #[.pointer (some ⟨gp, 0, none⟩), .pointer (some ⟨nb, 0, none⟩)]) (by simp) ?_
  have HB := Aside0.mk hb
  have HGP := Aside0.mk hgp
  have HP := Aside0.mk hp
  have HO := Aside0.mk ho
  have HOK := Aside0.mk hok
  clear hb hgp hp ho hok hnb
  go_enter Try.func35, Try.ntmps35
  go_wp2_with (first
    | ((with_reducible refine gate_dst (N := 3) rfl ?_);
        refine box_event ?hg (N := 3) ?hd (cs := #[.nilFunc, .nilFunc, .bool false]) (t := 63) ?hr ?_;
        (case hd => rfl); (case hg => rfl); (case hr => first | (go_simp; done) | (go_simp; rfl));
        intro g3 hg w2 hbox hb2;
        have N3 := Aside0.mk (show w1.heap.size ≤ g3 by rw [hg]; exact Nat.le_refl _);
        have hc2 := (hb2.cell (World.block_lt_of_cell? w1 _ hc)).trans hc;
        have HB2 := Aside0.mk hb2; have BK3 := Aside0.mk hbox; clear hg hbox hb2 hc)
    | fail)
  refine ((cut_inner W _ gp v l dn fu fa size sd hsd (below_step HB.out HB2.out) HGP.out (blk_below HP.out HB2.out) (Kd.R_below HO.out HB2.out) HOK.out).mono ?_)
  rintro e w4 ⟨rv, dv, rfl, hb4, ⟨Kr, cr, rfl, hKr, hrf⟩, ⟨Kd_, cd, rfl, hKd, hdo⟩⟩
  have HKr := Aside0.mk hKr
  have Hrf := Aside0.mk hrf
  have HKd := Aside0.mk hKd
  have Hdo := Aside0.mk hdo
  have HB4 := Aside0.mk hb4
  have bk := blk_below BK3.out hb4
  have c0 := (blk_cell bk 0).trans rfl
  have c1 := (blk_cell bk 1).trans rfl
  have c2 := (blk_cell bk 2).trans rfl
  have f0 := blk_frozen bk 0
  have f1 := blk_frozen bk 1
  have f2 := blk_frozen bk 2
  have BK4 := Aside0.mk bk
  clear hKr hrf hKd hdo hb4 bk
  go_wp2
  refine bodyPost_ret (results_cell_row rfl _ _ g3 63 #[.func (.func Kr) #[] cr, .func (.func Kd_) #[] cd, .bool false] (0, 0) _ rfl (put3 BK4.out _ _ _) Try.underlying63 rfl (by kernel_rfl)) rfl ?_
  have hw4 : Below w1.heap.size w1 w4 := below_step HB2.out HB4.out
  have hgg : ∀ (k : Nat), k ≠ g3 → (((w4.setCell ⟨g3, 0, none⟩ (.func (.func Kr) #[] cr)).setCell ⟨g3, 1, none⟩ (.func (.func Kd_) #[] cd)).setCell ⟨g3, 2, none⟩ (.bool false)).heap[k]? = w4.heap[k]? := fun k hk =>
    ((Below.heap_setCell _ ⟨g3, 2, none⟩ _ k hk).trans (Below.heap_setCell _ ⟨g3, 1, none⟩ _ k hk)).trans (Below.heap_setCell _ ⟨g3, 0, none⟩ _ k hk)
  refine ⟨_, _, rfl, below3 hw4 N3.out _ _ _, ⟨Kr, cr, rfl, HKr.out, ?_⟩, Kd_, cd, rfl, HKd.out, ?_⟩
  · intro w5 i b hk hil hib
    refine Hrf.out w5 i b (fun k cs t h1 h2 h3 h4 => hk k cs t h1 h2 h3 ?_) hil hib
    rw [hgg k (fun e => by subst e; exact absurd h4 (ne63 BK4.out h1))]
    exact h4
  · intro w5 i b dn fu fa hk
    refine Hdo.out w5 i b dn fu fa (fun k cs t h1 h2 h3 h4 => hk k cs t h1 h2 h3 ?_)
    rw [hgg k (fun e => by subst e; exact absurd h4 (ne63 BK4.out h1))]
    exact h4
end Go.Proofs.Ytanonhipicoigaa.T
