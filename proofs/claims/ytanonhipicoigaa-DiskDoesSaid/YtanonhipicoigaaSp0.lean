import Derived.Test.YtanonhipicoigaaWMore
import Derived.Test.YtanonhipicoigaaWInvWords
import Derived.Deep.MidRow
import Derived.Laws.CopyOwn
import Derived.Lib.BufferWrite
import Derived.BigFrame
set_option linter.unusedVariables false
set_option linter.unusedSimpArgs false
namespace Go.Proofs.Ytanonhipicoigaa.Sp
open Go.RowKit Go.Proofs.YtanonhipicoigaaW.PrintWords Go.Proofs.YtanonhipicoigaaW.PrintLast Go.Proofs.YtanonhipicoigaaW.PrintMore

/-- A thing in memory: what it says of a world, and the blocks that it lies in. -/
structure Res where
  holds : World → Prop
  foot : Nat → Prop
  lives : ∀ {W W' : World}, (∀ g, foot g → g < W.heap.size → W'.heap[g]? = W.heap[g]?) → holds W → holds W'
  lt : ∀ {W : World} {g : Nat}, holds W → foot g → g < W.heap.size
/-- A block of the call's own, known whole. -/
def box (g : Nat) (cs : List Value) (t : TypeId) : Res where
  holds W := W.heap[g]? = some (.cells cs.toArray t (0, 0))
  foot k := k = g
  lives h hb := (h g rfl (blk_lt hb)).trans hb
  lt h e := by rw [e]; exact blk_lt h
/-- A block that is no cells (a map, an iterator), known whole. -/
def thing (g : Nat) (o : Obj) : Res where
  holds W := W.heap[g]? = some o
  foot k := k = g
  lives h hb := (h g rfl (blk_lt hb)).trans hb
  lt h e := by rw [e]; exact blk_lt h
/-- A row of the call's own. -/
def row {α : Type} (d : Kd α) (e : TypeId) (v : Value) (l : List α) : Res where
  holds W := d.R e W 0 (fun k => v.ownBlock = some k) v l
  foot k := v.ownBlock = some k
  lives h hr := Kd.R_step hr (fun k ho hlt => h k ho hlt)
  lt h e := by
    obtain ⟨inner, ho⟩ := Kd.R_own h
    exact own_lt ho _ e
/-- What a step turns at the most: the blocks of S, and what is new. -/
structure Upd (W W' : World) (S : Nat → Prop) : Prop where
  os : W'.os = W.os
  tape : W'.tape = W.tape
  output : W'.output = W.output
  size : W.heap.size ≤ W'.heap.size
  block : ∀ k, k < W.heap.size → ¬ S k → W'.heap[k]? = W.heap[k]?
theorem Upd.of_below {W W' : World} (h : Below W.heap.size W W') (S : Nat → Prop) : Upd W W' S := ⟨h.os, h.tape, h.output, h.size, fun k hk _ => h.block k hk⟩
theorem Upd.refl (W : World) (S : Nat → Prop) : Upd W W S := ⟨rfl, rfl, rfl, Nat.le_refl _, fun _ _ _ => rfl⟩
theorem Upd.trans {W W' W'' : World} {S S' : Nat → Prop} (h : Upd W W' S) (k : Upd W' W'' S') (hs : ∀ g, S' g → S g ∨ W.heap.size ≤ g) : Upd W W'' S :=
  ⟨k.os.trans h.os, k.tape.trans h.tape, k.output.trans h.output, Nat.le_trans h.size k.size, fun g hg hn => (k.block g (Nat.lt_of_lt_of_le hg h.size) (fun h2 => (hs g h2).elim hn (fun h3 => by omega))).trans (h.block g hg hn)⟩
theorem Upd.mono {W W' : World} {S S' : Nat → Prop} (h : Upd W W' S) (hs : ∀ g, S g → S' g) : Upd W W' S' := ⟨h.os, h.tape, h.output, h.size, fun k hk hn => h.block k hk (fun h2 => hn (hs k h2))⟩
theorem Upd.below {W W' : World} {S : Nat → Prop} (h : Upd W W' S) (hs : ∀ g, S g → W.heap.size ≤ g) : Below W.heap.size W W' := ⟨h.os, h.tape, h.output, h.size, fun k hk => h.block k hk (fun h2 => by have := hs k h2; omega)⟩
theorem Upd.setCell (W : World) (p : Addr) (v : Value) : Upd W (W.setCell p v) (fun k => k = p.block) := ⟨rfl, rfl, rfl, by simp [World.setCell], fun k _ hn => Below.heap_setCell W p v k hn⟩
theorem Upd.of_grown {W W' : World} {r : Option Nat} (h : W.grownBy W' r) : Upd W W' (fun k => r = some k) := ⟨h.os, h.tape, h.output, h.size, fun k hk hn => h.block k hk (fun e => hn e.symm)⟩
/-- Things in memory, apart from each other, all of the call's own; what lay there when the call began lies as it lay. -/
structure Sep (b W : World) (rs : List Res) : Prop where
  below : Below b.heap.size b W
  all : ∀ r, r ∈ rs → r.holds W
  base : ∀ r, r ∈ rs → ∀ g, r.foot g → b.heap.size ≤ g
  apart : rs.Pairwise (fun r s => ∀ g, r.foot g → ¬ s.foot g)
theorem Sep.start (b : World) : Sep b b [] := ⟨Below.refl _ _, by simp, by simp, .nil⟩
section
variable {b W W' : World} {rs rs' pre post : List Res} {r r' : Res}
theorem Sep.step (H : Sep b W rs) (h : Below W.heap.size W W') : Sep b W' rs :=
  ⟨below_then H.below H.below.size h, fun r hr => r.lives (fun g _ hl => h.block g hl) (H.all r hr), H.base, H.apart⟩
theorem Sep.drew (H : Sep b W rs) : Sep b W.drew rs := H.step (below_drew (Below.refl _ _))
theorem Sep.drewN (H : Sep b W rs) (n : Nat) : Sep b (W.drewN n) rs := H.step (pw_below_drewN (Below.refl _ _) n)
/-- New things. -/
theorem Sep.news (H : Sep b W rs) (h : Below W.heap.size W W') (hn : ∀ r, r ∈ rs' → r.holds W' ∧ ∀ g, r.foot g → W.heap.size ≤ g) (ha : rs'.Pairwise (fun r s => ∀ g, r.foot g → ¬ s.foot g)) : Sep b W' (rs' ++ rs) := by
  have H' := H.step h
  refine ⟨H'.below, fun r hr => ?_, fun r hr g hg => ?_, List.pairwise_append.2 ⟨ha, H.apart, fun r hr s hs g hg hg' => ?_⟩⟩
  · rcases List.mem_append.1 hr with hr | hr
    · exact (hn r hr).1
    · exact H'.all r hr
  · rcases List.mem_append.1 hr with hr | hr
    · exact Nat.le_trans H.below.size ((hn r hr).2 g hg)
    · exact H.base r hr g hg
  · have h1 := (hn r hr).2 g hg
    have h2 := s.lt (H.all s hs) hg'
    omega
theorem Sep.push (H : Sep b W rs) (h : Below W.heap.size W W') (r : Res) (hr : r.holds W') (hf : ∀ g, r.foot g → W.heap.size ≤ g) : Sep b W' (r :: rs) :=
  H.news (rs' := [r]) h (fun s hs => by rw [List.mem_singleton.1 hs]; exact ⟨hr, hf⟩) (List.pairwise_singleton _ _)
theorem Sep.alloc (H : Sep b W rs) (cs : List Value) (t : TypeId) : Sep b (W.alloc (.cells cs.toArray t (0, 0))) (box W.heap.size cs t :: rs) :=
  H.push (below_alloc (Below.refl _ _) _) _ (blk_new W _) (fun g hg => by rw [show g = W.heap.size from hg]; exact Nat.le_refl _)
theorem Sep.drop (H : Sep b W (pre ++ r :: post)) : Sep b W (pre ++ post) := by
  have hs : (pre ++ post).Sublist (pre ++ r :: post) := List.Sublist.append (List.Sublist.refl _) (List.sublist_cons_self _ _)
  exact ⟨H.below, fun s hm => H.all s (hs.subset hm), fun s hm => H.base s (hs.subset hm), H.apart.sublist hs⟩
theorem Sep.sub (H : Sep b W rs) (h : rs'.Sublist rs) : Sep b W rs' := ⟨H.below, fun s hm => H.all s (h.subset hm), fun s hm => H.base s (h.subset hm), H.apart.sublist h⟩
theorem Sep.perm (H : Sep b W rs) (h : rs.Perm rs') : Sep b W rs' := ⟨H.below, fun s hm => H.all s (h.mem_iff.2 hm), fun s hm => H.base s (h.mem_iff.2 hm), (h.pairwise_iff (fun hxy g hg hg' => hxy g hg' hg)).1 H.apart⟩
/-- One thing turns. -/
theorem Sep.upd (H : Sep b W (pre ++ r :: post)) (h : Upd W W' r.foot) (hr : r'.holds W') (hf : ∀ g, r'.foot g → r.foot g ∨ W.heap.size ≤ g) : Sep b W' (pre ++ r' :: post) := by
  have hr0 : r ∈ pre ++ r :: post := by simp
  have hap := List.pairwise_append.1 H.apart
  have hap2 := List.pairwise_cons.1 hap.2.1
  have hother : ∀ s, s ∈ pre ++ post → (∀ g, r.foot g → ¬ s.foot g) ∧ s.holds W := by
    intro s hs
    rcases List.mem_append.1 hs with hs | hs
    · exact ⟨fun g hg hg' => hap.2.2 s hs r (by simp) g hg' hg, H.all s (by simp [hs])⟩
    · exact ⟨fun g hg hg' => hap2.1 s hs g hg hg', H.all s (by simp [hs])⟩
  have hkeep : ∀ s, s ∈ pre ++ post → s.holds W' := fun s hs => s.lives (fun g hg hl => h.block g hl (fun h2 => (hother s hs).1 g h2 hg)) (hother s hs).2
  have hnew : ∀ s, s ∈ pre ++ post → ∀ g, r'.foot g → ¬ s.foot g := fun s hs g hg hg' => (hf g hg).elim (fun h2 => (hother s hs).1 g h2 hg') (fun h2 => by have := s.lt (hother s hs).2 hg'; omega)
  refine ⟨?_, ?_, ?_, List.pairwise_append.2 ⟨hap.1, List.pairwise_cons.2 ⟨fun s hs => hnew s (by simp [hs]), hap2.2⟩, ?_⟩⟩
  · exact H.below.trans ⟨h.os, h.tape, h.output, h.size, fun k hk => h.block k (Nat.lt_of_lt_of_le hk H.below.size) (fun h2 => by have := H.base r hr0 k h2; omega)⟩
  · intro s hs
    rcases List.mem_append.1 hs with hs | hs
    · exact hkeep s (by simp [hs])
    · rcases List.mem_cons.1 hs with rfl | hs
      · exact hr
      · exact hkeep s (by simp [hs])
  · intro s hs g hg
    rcases List.mem_append.1 hs with hs | hs
    · exact H.base s (by simp [hs]) g hg
    · rcases List.mem_cons.1 hs with rfl | hs
      · rcases hf g hg with h2 | h2
        · exact H.base r hr0 g h2
        · exact Nat.le_trans H.below.size h2
      · exact H.base s (by simp [hs]) g hg
  · intro s hs t ht g hg hg'
    rcases List.mem_cons.1 ht with rfl | ht
    · exact hnew s (by simp [hs]) g hg' hg
    · exact hap.2.2 s hs t (by simp [ht]) g hg hg'
/-- A store into a box. -/
theorem Sep.set {g : Nat} {cs cs' : List Value} {t : TypeId} (H : Sep b W (pre ++ box g cs t :: post)) (j : Nat) (v : Value) (e : cs.set j v = cs') : Sep b (W.setCell ⟨g, j, none⟩ v) (pre ++ box g cs' t :: post) := by
  refine H.upd (r' := box g cs' t) (Upd.setCell W _ v) ?_ (fun k hk => .inl hk)
  have hb : W.heap[g]? = some (.cells cs.toArray t (0, 0)) := H.all (box g cs t) (by simp)
  show (W.setCell ⟨g, j, none⟩ v).heap[g]? = some (.cells cs'.toArray t (0, 0))
  exact blk_put hb j v (by rw [← e]; simp)
theorem Sep.box_ {g : Nat} {cs : List Value} {t : TypeId} (H : Sep b W rs) (hm : box g cs t ∈ rs) : W.heap[g]? = some (.cells cs.toArray t (0, 0)) := H.all _ hm
theorem Sep.cell {g : Nat} {cs : List Value} {t : TypeId} (H : Sep b W rs) (hm : box g cs t ∈ rs) (j : Nat) : W.cell? ⟨g, j, none⟩ = cs[j]? := by
  rw [blk_cell (H.box_ hm) j]; simp
theorem Sep.frozen {g : Nat} {cs : List Value} {t : TypeId} (H : Sep b W rs) (hm : box g cs t ∈ rs) (j : Nat) : W.frozen? ⟨g, j, none⟩ = false := blk_frozen (H.box_ hm) j
theorem Sep.row_ {α : Type} {d : Kd α} {e : TypeId} {v : Value} {l : List α} (H : Sep b W rs) (hm : row d e v l ∈ rs) : d.R e W 0 (fun k => v.ownBlock = some k) v l := H.all _ hm
theorem Sep.reads {α : Type} {d : Kd α} {e : TypeId} {A : Option Addr} {n c : Nat} {l : List α} (H : Sep b W rs) (hm : row d e (.slice A n c) l ∈ rs) : n = l.length ∧ l.length ≤ c ∧ d.C W A l.length l := by
  have h := Kd.R_reads' (H.row_ hm)
  obtain ⟨rfl, h2, h3⟩ := h
  exact ⟨rfl, h2, h3⟩
theorem Sep.came {α : Type} {d : Kd α} {A : Option Addr} {n : Nat} {l : List α} (H : Sep b W rs) (h : d.C b A n l) : d.C W A n l := Kd.C_below h H.below
end
/-! ### Members -/
theorem mem0 {r : Res} {post : List Res} : r ∈ r :: post := by simp
theorem Sep.set0 {b W : World} {post : List Res} {g : Nat} {cs cs' : List Value} {t : TypeId} (H : Sep b W (box g cs t :: post)) (j : Nat) (v : Value) (e : cs.set j v = cs') : Sep b (W.setCell ⟨g, j, none⟩ v) (box g cs' t :: post) := Sep.set (pre := []) H j v e
theorem Sep.front0 {b W : World} {r : Res} {post : List Res} (H : Sep b W (r :: post)) : Sep b W (r :: post) := H.perm (List.perm_middle (l₁ := []) (a := r) (l₂ := post))
theorem Sep.drop0 {b W : World} {r : Res} {post : List Res} (H : Sep b W (r :: post)) : Sep b W (post) := Sep.drop (pre := []) H
theorem mem1 {r0 : Res} {r : Res} {post : List Res} : r ∈ r0 :: r :: post := by simp
theorem Sep.set1 {b W : World} {r0 : Res} {post : List Res} {g : Nat} {cs cs' : List Value} {t : TypeId} (H : Sep b W (r0 :: box g cs t :: post)) (j : Nat) (v : Value) (e : cs.set j v = cs') : Sep b (W.setCell ⟨g, j, none⟩ v) (r0 :: box g cs' t :: post) := Sep.set (pre := [r0]) H j v e
theorem Sep.front1 {b W : World} {r0 : Res} {r : Res} {post : List Res} (H : Sep b W (r0 :: r :: post)) : Sep b W (r :: r0 :: post) := H.perm (List.perm_middle (l₁ := [r0]) (a := r) (l₂ := post))
theorem Sep.drop1 {b W : World} {r0 : Res} {r : Res} {post : List Res} (H : Sep b W (r0 :: r :: post)) : Sep b W (r0 :: post) := Sep.drop (pre := [r0]) H
theorem mem2 {r0 r1 : Res} {r : Res} {post : List Res} : r ∈ r0 :: r1 :: r :: post := by simp
theorem Sep.set2 {b W : World} {r0 r1 : Res} {post : List Res} {g : Nat} {cs cs' : List Value} {t : TypeId} (H : Sep b W (r0 :: r1 :: box g cs t :: post)) (j : Nat) (v : Value) (e : cs.set j v = cs') : Sep b (W.setCell ⟨g, j, none⟩ v) (r0 :: r1 :: box g cs' t :: post) := Sep.set (pre := [r0, r1]) H j v e
theorem Sep.front2 {b W : World} {r0 r1 : Res} {r : Res} {post : List Res} (H : Sep b W (r0 :: r1 :: r :: post)) : Sep b W (r :: r0 :: r1 :: post) := H.perm (List.perm_middle (l₁ := [r0, r1]) (a := r) (l₂ := post))
theorem Sep.drop2 {b W : World} {r0 r1 : Res} {r : Res} {post : List Res} (H : Sep b W (r0 :: r1 :: r :: post)) : Sep b W (r0 :: r1 :: post) := Sep.drop (pre := [r0, r1]) H
theorem mem3 {r0 r1 r2 : Res} {r : Res} {post : List Res} : r ∈ r0 :: r1 :: r2 :: r :: post := by simp
theorem Sep.set3 {b W : World} {r0 r1 r2 : Res} {post : List Res} {g : Nat} {cs cs' : List Value} {t : TypeId} (H : Sep b W (r0 :: r1 :: r2 :: box g cs t :: post)) (j : Nat) (v : Value) (e : cs.set j v = cs') : Sep b (W.setCell ⟨g, j, none⟩ v) (r0 :: r1 :: r2 :: box g cs' t :: post) := Sep.set (pre := [r0, r1, r2]) H j v e
theorem Sep.front3 {b W : World} {r0 r1 r2 : Res} {r : Res} {post : List Res} (H : Sep b W (r0 :: r1 :: r2 :: r :: post)) : Sep b W (r :: r0 :: r1 :: r2 :: post) := H.perm (List.perm_middle (l₁ := [r0, r1, r2]) (a := r) (l₂ := post))
theorem Sep.drop3 {b W : World} {r0 r1 r2 : Res} {r : Res} {post : List Res} (H : Sep b W (r0 :: r1 :: r2 :: r :: post)) : Sep b W (r0 :: r1 :: r2 :: post) := Sep.drop (pre := [r0, r1, r2]) H
theorem mem4 {r0 r1 r2 r3 : Res} {r : Res} {post : List Res} : r ∈ r0 :: r1 :: r2 :: r3 :: r :: post := by simp
theorem Sep.set4 {b W : World} {r0 r1 r2 r3 : Res} {post : List Res} {g : Nat} {cs cs' : List Value} {t : TypeId} (H : Sep b W (r0 :: r1 :: r2 :: r3 :: box g cs t :: post)) (j : Nat) (v : Value) (e : cs.set j v = cs') : Sep b (W.setCell ⟨g, j, none⟩ v) (r0 :: r1 :: r2 :: r3 :: box g cs' t :: post) := Sep.set (pre := [r0, r1, r2, r3]) H j v e
theorem Sep.front4 {b W : World} {r0 r1 r2 r3 : Res} {r : Res} {post : List Res} (H : Sep b W (r0 :: r1 :: r2 :: r3 :: r :: post)) : Sep b W (r :: r0 :: r1 :: r2 :: r3 :: post) := H.perm (List.perm_middle (l₁ := [r0, r1, r2, r3]) (a := r) (l₂ := post))
theorem Sep.drop4 {b W : World} {r0 r1 r2 r3 : Res} {r : Res} {post : List Res} (H : Sep b W (r0 :: r1 :: r2 :: r3 :: r :: post)) : Sep b W (r0 :: r1 :: r2 :: r3 :: post) := Sep.drop (pre := [r0, r1, r2, r3]) H
theorem mem5 {r0 r1 r2 r3 r4 : Res} {r : Res} {post : List Res} : r ∈ r0 :: r1 :: r2 :: r3 :: r4 :: r :: post := by simp
theorem Sep.set5 {b W : World} {r0 r1 r2 r3 r4 : Res} {post : List Res} {g : Nat} {cs cs' : List Value} {t : TypeId} (H : Sep b W (r0 :: r1 :: r2 :: r3 :: r4 :: box g cs t :: post)) (j : Nat) (v : Value) (e : cs.set j v = cs') : Sep b (W.setCell ⟨g, j, none⟩ v) (r0 :: r1 :: r2 :: r3 :: r4 :: box g cs' t :: post) := Sep.set (pre := [r0, r1, r2, r3, r4]) H j v e
theorem Sep.front5 {b W : World} {r0 r1 r2 r3 r4 : Res} {r : Res} {post : List Res} (H : Sep b W (r0 :: r1 :: r2 :: r3 :: r4 :: r :: post)) : Sep b W (r :: r0 :: r1 :: r2 :: r3 :: r4 :: post) := H.perm (List.perm_middle (l₁ := [r0, r1, r2, r3, r4]) (a := r) (l₂ := post))
theorem Sep.drop5 {b W : World} {r0 r1 r2 r3 r4 : Res} {r : Res} {post : List Res} (H : Sep b W (r0 :: r1 :: r2 :: r3 :: r4 :: r :: post)) : Sep b W (r0 :: r1 :: r2 :: r3 :: r4 :: post) := Sep.drop (pre := [r0, r1, r2, r3, r4]) H
theorem mem6 {r0 r1 r2 r3 r4 r5 : Res} {r : Res} {post : List Res} : r ∈ r0 :: r1 :: r2 :: r3 :: r4 :: r5 :: r :: post := by simp
theorem Sep.set6 {b W : World} {r0 r1 r2 r3 r4 r5 : Res} {post : List Res} {g : Nat} {cs cs' : List Value} {t : TypeId} (H : Sep b W (r0 :: r1 :: r2 :: r3 :: r4 :: r5 :: box g cs t :: post)) (j : Nat) (v : Value) (e : cs.set j v = cs') : Sep b (W.setCell ⟨g, j, none⟩ v) (r0 :: r1 :: r2 :: r3 :: r4 :: r5 :: box g cs' t :: post) := Sep.set (pre := [r0, r1, r2, r3, r4, r5]) H j v e
theorem Sep.front6 {b W : World} {r0 r1 r2 r3 r4 r5 : Res} {r : Res} {post : List Res} (H : Sep b W (r0 :: r1 :: r2 :: r3 :: r4 :: r5 :: r :: post)) : Sep b W (r :: r0 :: r1 :: r2 :: r3 :: r4 :: r5 :: post) := H.perm (List.perm_middle (l₁ := [r0, r1, r2, r3, r4, r5]) (a := r) (l₂ := post))
theorem Sep.drop6 {b W : World} {r0 r1 r2 r3 r4 r5 : Res} {r : Res} {post : List Res} (H : Sep b W (r0 :: r1 :: r2 :: r3 :: r4 :: r5 :: r :: post)) : Sep b W (r0 :: r1 :: r2 :: r3 :: r4 :: r5 :: post) := Sep.drop (pre := [r0, r1, r2, r3, r4, r5]) H
theorem mem7 {r0 r1 r2 r3 r4 r5 r6 : Res} {r : Res} {post : List Res} : r ∈ r0 :: r1 :: r2 :: r3 :: r4 :: r5 :: r6 :: r :: post := by simp
theorem Sep.set7 {b W : World} {r0 r1 r2 r3 r4 r5 r6 : Res} {post : List Res} {g : Nat} {cs cs' : List Value} {t : TypeId} (H : Sep b W (r0 :: r1 :: r2 :: r3 :: r4 :: r5 :: r6 :: box g cs t :: post)) (j : Nat) (v : Value) (e : cs.set j v = cs') : Sep b (W.setCell ⟨g, j, none⟩ v) (r0 :: r1 :: r2 :: r3 :: r4 :: r5 :: r6 :: box g cs' t :: post) := Sep.set (pre := [r0, r1, r2, r3, r4, r5, r6]) H j v e
theorem Sep.front7 {b W : World} {r0 r1 r2 r3 r4 r5 r6 : Res} {r : Res} {post : List Res} (H : Sep b W (r0 :: r1 :: r2 :: r3 :: r4 :: r5 :: r6 :: r :: post)) : Sep b W (r :: r0 :: r1 :: r2 :: r3 :: r4 :: r5 :: r6 :: post) := H.perm (List.perm_middle (l₁ := [r0, r1, r2, r3, r4, r5, r6]) (a := r) (l₂ := post))
theorem Sep.drop7 {b W : World} {r0 r1 r2 r3 r4 r5 r6 : Res} {r : Res} {post : List Res} (H : Sep b W (r0 :: r1 :: r2 :: r3 :: r4 :: r5 :: r6 :: r :: post)) : Sep b W (r0 :: r1 :: r2 :: r3 :: r4 :: r5 :: r6 :: post) := Sep.drop (pre := [r0, r1, r2, r3, r4, r5, r6]) H
theorem mem8 {r0 r1 r2 r3 r4 r5 r6 r7 : Res} {r : Res} {post : List Res} : r ∈ r0 :: r1 :: r2 :: r3 :: r4 :: r5 :: r6 :: r7 :: r :: post := by simp
theorem Sep.set8 {b W : World} {r0 r1 r2 r3 r4 r5 r6 r7 : Res} {post : List Res} {g : Nat} {cs cs' : List Value} {t : TypeId} (H : Sep b W (r0 :: r1 :: r2 :: r3 :: r4 :: r5 :: r6 :: r7 :: box g cs t :: post)) (j : Nat) (v : Value) (e : cs.set j v = cs') : Sep b (W.setCell ⟨g, j, none⟩ v) (r0 :: r1 :: r2 :: r3 :: r4 :: r5 :: r6 :: r7 :: box g cs' t :: post) := Sep.set (pre := [r0, r1, r2, r3, r4, r5, r6, r7]) H j v e
theorem Sep.front8 {b W : World} {r0 r1 r2 r3 r4 r5 r6 r7 : Res} {r : Res} {post : List Res} (H : Sep b W (r0 :: r1 :: r2 :: r3 :: r4 :: r5 :: r6 :: r7 :: r :: post)) : Sep b W (r :: r0 :: r1 :: r2 :: r3 :: r4 :: r5 :: r6 :: r7 :: post) := H.perm (List.perm_middle (l₁ := [r0, r1, r2, r3, r4, r5, r6, r7]) (a := r) (l₂ := post))
theorem Sep.drop8 {b W : World} {r0 r1 r2 r3 r4 r5 r6 r7 : Res} {r : Res} {post : List Res} (H : Sep b W (r0 :: r1 :: r2 :: r3 :: r4 :: r5 :: r6 :: r7 :: r :: post)) : Sep b W (r0 :: r1 :: r2 :: r3 :: r4 :: r5 :: r6 :: r7 :: post) := Sep.drop (pre := [r0, r1, r2, r3, r4, r5, r6, r7]) H
theorem mem9 {r0 r1 r2 r3 r4 r5 r6 r7 r8 : Res} {r : Res} {post : List Res} : r ∈ r0 :: r1 :: r2 :: r3 :: r4 :: r5 :: r6 :: r7 :: r8 :: r :: post := by simp
theorem Sep.set9 {b W : World} {r0 r1 r2 r3 r4 r5 r6 r7 r8 : Res} {post : List Res} {g : Nat} {cs cs' : List Value} {t : TypeId} (H : Sep b W (r0 :: r1 :: r2 :: r3 :: r4 :: r5 :: r6 :: r7 :: r8 :: box g cs t :: post)) (j : Nat) (v : Value) (e : cs.set j v = cs') : Sep b (W.setCell ⟨g, j, none⟩ v) (r0 :: r1 :: r2 :: r3 :: r4 :: r5 :: r6 :: r7 :: r8 :: box g cs' t :: post) := Sep.set (pre := [r0, r1, r2, r3, r4, r5, r6, r7, r8]) H j v e
theorem Sep.front9 {b W : World} {r0 r1 r2 r3 r4 r5 r6 r7 r8 : Res} {r : Res} {post : List Res} (H : Sep b W (r0 :: r1 :: r2 :: r3 :: r4 :: r5 :: r6 :: r7 :: r8 :: r :: post)) : Sep b W (r :: r0 :: r1 :: r2 :: r3 :: r4 :: r5 :: r6 :: r7 :: r8 :: post) := H.perm (List.perm_middle (l₁ := [r0, r1, r2, r3, r4, r5, r6, r7, r8]) (a := r) (l₂ := post))
theorem Sep.drop9 {b W : World} {r0 r1 r2 r3 r4 r5 r6 r7 r8 : Res} {r : Res} {post : List Res} (H : Sep b W (r0 :: r1 :: r2 :: r3 :: r4 :: r5 :: r6 :: r7 :: r8 :: r :: post)) : Sep b W (r0 :: r1 :: r2 :: r3 :: r4 :: r5 :: r6 :: r7 :: r8 :: post) := Sep.drop (pre := [r0, r1, r2, r3, r4, r5, r6, r7, r8]) H
theorem mem10 {r0 r1 r2 r3 r4 r5 r6 r7 r8 r9 : Res} {r : Res} {post : List Res} : r ∈ r0 :: r1 :: r2 :: r3 :: r4 :: r5 :: r6 :: r7 :: r8 :: r9 :: r :: post := by simp
theorem Sep.set10 {b W : World} {r0 r1 r2 r3 r4 r5 r6 r7 r8 r9 : Res} {post : List Res} {g : Nat} {cs cs' : List Value} {t : TypeId} (H : Sep b W (r0 :: r1 :: r2 :: r3 :: r4 :: r5 :: r6 :: r7 :: r8 :: r9 :: box g cs t :: post)) (j : Nat) (v : Value) (e : cs.set j v = cs') : Sep b (W.setCell ⟨g, j, none⟩ v) (r0 :: r1 :: r2 :: r3 :: r4 :: r5 :: r6 :: r7 :: r8 :: r9 :: box g cs' t :: post) := Sep.set (pre := [r0, r1, r2, r3, r4, r5, r6, r7, r8, r9]) H j v e
theorem Sep.front10 {b W : World} {r0 r1 r2 r3 r4 r5 r6 r7 r8 r9 : Res} {r : Res} {post : List Res} (H : Sep b W (r0 :: r1 :: r2 :: r3 :: r4 :: r5 :: r6 :: r7 :: r8 :: r9 :: r :: post)) : Sep b W (r :: r0 :: r1 :: r2 :: r3 :: r4 :: r5 :: r6 :: r7 :: r8 :: r9 :: post) := H.perm (List.perm_middle (l₁ := [r0, r1, r2, r3, r4, r5, r6, r7, r8, r9]) (a := r) (l₂ := post))
theorem Sep.drop10 {b W : World} {r0 r1 r2 r3 r4 r5 r6 r7 r8 r9 : Res} {r : Res} {post : List Res} (H : Sep b W (r0 :: r1 :: r2 :: r3 :: r4 :: r5 :: r6 :: r7 :: r8 :: r9 :: r :: post)) : Sep b W (r0 :: r1 :: r2 :: r3 :: r4 :: r5 :: r6 :: r7 :: r8 :: r9 :: post) := Sep.drop (pre := [r0, r1, r2, r3, r4, r5, r6, r7, r8, r9]) H
theorem mem11 {r0 r1 r2 r3 r4 r5 r6 r7 r8 r9 r10 : Res} {r : Res} {post : List Res} : r ∈ r0 :: r1 :: r2 :: r3 :: r4 :: r5 :: r6 :: r7 :: r8 :: r9 :: r10 :: r :: post := by simp
theorem Sep.set11 {b W : World} {r0 r1 r2 r3 r4 r5 r6 r7 r8 r9 r10 : Res} {post : List Res} {g : Nat} {cs cs' : List Value} {t : TypeId} (H : Sep b W (r0 :: r1 :: r2 :: r3 :: r4 :: r5 :: r6 :: r7 :: r8 :: r9 :: r10 :: box g cs t :: post)) (j : Nat) (v : Value) (e : cs.set j v = cs') : Sep b (W.setCell ⟨g, j, none⟩ v) (r0 :: r1 :: r2 :: r3 :: r4 :: r5 :: r6 :: r7 :: r8 :: r9 :: r10 :: box g cs' t :: post) := Sep.set (pre := [r0, r1, r2, r3, r4, r5, r6, r7, r8, r9, r10]) H j v e
theorem Sep.front11 {b W : World} {r0 r1 r2 r3 r4 r5 r6 r7 r8 r9 r10 : Res} {r : Res} {post : List Res} (H : Sep b W (r0 :: r1 :: r2 :: r3 :: r4 :: r5 :: r6 :: r7 :: r8 :: r9 :: r10 :: r :: post)) : Sep b W (r :: r0 :: r1 :: r2 :: r3 :: r4 :: r5 :: r6 :: r7 :: r8 :: r9 :: r10 :: post) := H.perm (List.perm_middle (l₁ := [r0, r1, r2, r3, r4, r5, r6, r7, r8, r9, r10]) (a := r) (l₂ := post))
theorem Sep.drop11 {b W : World} {r0 r1 r2 r3 r4 r5 r6 r7 r8 r9 r10 : Res} {r : Res} {post : List Res} (H : Sep b W (r0 :: r1 :: r2 :: r3 :: r4 :: r5 :: r6 :: r7 :: r8 :: r9 :: r10 :: r :: post)) : Sep b W (r0 :: r1 :: r2 :: r3 :: r4 :: r5 :: r6 :: r7 :: r8 :: r9 :: r10 :: post) := Sep.drop (pre := [r0, r1, r2, r3, r4, r5, r6, r7, r8, r9, r10]) H

/-! ### As the walk meets them -/
section
variable {P : Program} {ops : Array Oper} {rest : List Oper} {o : Oper} {a : Act} {Q : Exit → Act → World → Prop} {b W : World} {rs : List Res}
/-- At a load: the cells of the box that is addressed. -/
theorem see_load {t : TypeId} {x : Operand} (_ho : o.op = .load t x) {g j : Nat} (_hx : a.eval x = .pointer (some ⟨g, j, none⟩)) (H : Aside0 (Sep b W rs)) {cs : List Value} {tt : TypeId} (hm : box g cs tt ∈ rs)
    (h : (∀ k, W.cell? ⟨g, k, none⟩ = cs[k]?) → wpList P ops Q (o :: rest) a W) : wpList P ops Q (o :: rest) a W := h (H.out.cell hm)
theorem see_store {t : TypeId} {x y : Operand} (_ho : o.op = .store t x y) {g j : Nat} (_hx : a.eval x = .pointer (some ⟨g, j, none⟩)) (H : Aside0 (Sep b W rs)) {cs : List Value} {tt : TypeId} (hm : box g cs tt ∈ rs)
    (h : (∀ k, W.cell? ⟨g, k, none⟩ = cs[k]?) → (∀ k, W.frozen? ⟨g, k, none⟩ = false) → wpList P ops Q (o :: rest) a W) : wpList P ops Q (o :: rest) a W := h (H.out.cell hm) (H.out.frozen hm)
/-- The world under a name of its own. -/
theorem gen_world {W1 : World} (H1 : Sep b W1 rs) (h : ∀ W', Aside0 (Sep b W' rs) → wpList P ops Q rest a W') : wpList P ops Q rest a W1 := h W1 ⟨H1⟩
/-- A new box. -/
theorem new_box (hgd : o.guard = none) (H : Aside0 (Sep b W rs)) {cs : List Value} {t : TypeId}
    (hrun : (execOp a.eval o).run P W = .ok (.value (.pointer (some ⟨W.heap.size, 0, none⟩))) (W.alloc (.cells cs.toArray t (0, 0))))
    (h : ∀ g W', Aside0 (Sep b W' (box g cs t :: rs)) → wpList P ops Q rest (a.put o.dst (.pointer (some ⟨g, 0, none⟩))) W') : wpList P ops Q (o :: rest) a W :=
  Kd.event_run hgd hrun (h _ _ ⟨H.out.alloc cs t⟩)
/-- A store into a box, the world behind it under a name of its own. -/
theorem put_box {W1 : World} {rs1 : List Res} (hgd : o.guard = none) {t : TypeId} {p : Tmp} {v : Operand} (_ho : o.op = .store t (.tmp p) v) (hN : o.dst = none) (hrun : (execOp a.eval o).run P W = .ok .skip W1) (H1 : Sep b W1 rs1)
    (h : ∀ W', Aside0 (Sep b W' rs1) → wpList P ops Q rest a W') : wpList P ops Q (o :: rest) a W :=
  store_event hgd _ho hN hrun fun W' e => h W' ⟨by rw [e]; exact H1⟩
theorem gen_k {K : Act → World → Prop} {W1 : World} (H1 : Sep b W1 rs) (h : ∀ W', Aside0 (Sep b W' rs) → K a W') : K a W1 := h W1 ⟨H1⟩
theorem gen_code {W1 : World} {c : Code} (H1 : Sep b W1 rs) (h : ∀ W', Aside0 (Sep b W' rs) → Code.wp P c Q a W') : Code.wp P c Q a W1 := h W1 ⟨H1⟩
end
section
variable {α : Type} {d : Kd α} {b W W' : World} {rs : List Res} {e base : Nat} {ok : Nat → Prop} {v : Value} {l : List α}
/-- A row of flat elements that a call hands back. -/
theorem Sep.push_row (H : Sep b W rs) (hb : Below W.heap.size W W') (ho : d.R e W' W.heap.size ok v l) (hd : ∀ {ok1 ok2 : Nat → Prop} {x : α} {cs : List Value}, d.M W' 0 ok1 x cs → d.M W' 0 ok2 x cs) : Sep b W' (row d e v l :: rs) := by
  refine H.push hb (row d e v l) (Kd.R_flat hd (Kd.R_lower ho (Nat.zero_le _)) (fun k hk _ => hk)) (fun g hg => ?_)
  obtain ⟨inner, hown⟩ := Kd.R_own ho
  exact own_base hown g hg
theorem Sep.push_nil (H : Sep b W rs) : Sep b W (row d e (.slice none 0 0) [] :: rs) :=
  H.push (Below.refl _ _) _ (Kd.R_nil _ _ _ _ _) (fun g hg => by simp [row, Value.ownBlock] at hg)
end

/-! ### append of one element -/
section
variable {P : Program} {ops : Array Oper} {rest : List Oper} {o : Oper} {a : Act} {Q : Exit → Act → World → Prop} {b W : World} {α : Type}
def Flat (d : Kd α) : Prop := ∀ {W : World} {ok1 ok2 : Nat → Prop} {x : α} {cs : List Value}, d.M W 0 ok1 x cs → d.M W 0 ok2 x cs
theorem app_row (d : Kd α) (hd : Flat d) (pre post : List Res) (hgd : o.guard = none) (s x : Operand) (t e : TypeId) (z : Value) (bytes : Nat)
    (ho : o.op = .call { callee := .builtin .append, args := #[s, x], argTypes := #[t, t] })
    (ht : P.underlying t = some (.slice e)) (hinfo : (P.info? e).map (fun i => (i.zero, i.size, i.bytes)) = some (some z, d.sz, bytes)) (hz : z.cells.size = d.sz) (hs0 : 0 < d.sz) (hb0 : 0 < bytes)
    (v : Value) (xs : List α) (p : α) (cs : List Value) (hs : a.eval s = v) (hx : a.eval x = .slice (some ⟨W.heap.size, 0, none⟩) 1 1) (hp : d.M W 0 (fun _ => False) p cs)
    (H : Aside0 (Sep b W (pre ++ row d e v xs :: post))) (hl : (xs.length + 1) * bytes ≤ 140737488355328)
    (h : ∀ A1 c1 W', Aside0 (Sep b W' (pre ++ row d e (.slice A1 (xs ++ [p]).length c1) (xs ++ [p]) :: post)) → wpList P ops Q rest (a.put o.dst (.slice A1 (xs ++ [p]).length c1)) W') :
    wpList P ops Q (o :: rest) a (W.alloc (.cells cs.toArray e)) := by
  have hr : d.R e W 0 (fun k => v.ownBlock = some k) v xs := H.out.all (row d e v xs) (by simp)
  refine Kd.R_append d (w0 := W) 0 hgd s x t e z bytes ho ht hinfo hz hs0 hb0 v xs p cs (fun k => v.ownBlock = some k ∨ W.heap.size ≤ k) (fun _ => False) hs hx hp (fun _ hk => hk.elim) (fun k hk => .inr hk)
    (Kd.R_mono hr (fun k hk => .inl hk)) (Below.refl _ _) (Nat.zero_le _) hl ?_
  intro v1 w1 ho1 _ hg hat
  obtain ⟨A1, c1, rfl⟩ := Kd.R_slice ho1
  refine h A1 c1 w1 ⟨H.out.upd (r' := row d e (.slice A1 (xs ++ [p]).length c1) (xs ++ [p])) (Upd.of_grown hg) (Kd.R_flat hd ho1 (fun k hk _ => hk)) (fun k hk => ?_)⟩
  have hk' : (Value.slice A1 (xs ++ [p]).length c1).ownBlock = some k := hk
  rcases hat with e1 | ⟨b1, e1, hb1⟩
  · exact .inl (show v.ownBlock = some k by rw [← e1]; exact hk')
  · rw [e1] at hk'
    injection hk' with hk'
    exact .inr (by omega)
theorem flat_int (k : IntKind) : Flat (Kd.int k) := fun h => h
theorem flat_string : Flat Kd.string := fun h => h
end
theorem app_row0 {P : Program} {ops : Array Oper} {rest : List Oper} {o : Oper} {a : Act} {Q : Exit → Act → World → Prop} {b W : World} {α : Type} {post : List Res} (d : Kd α) (hd : Flat d) (hgd : o.guard = none) (s x : Operand) (t e : TypeId) (z : Value) (bytes : Nat)
    (ho : o.op = .call { callee := .builtin .append, args := #[s, x], argTypes := #[t, t] })
    (ht : P.underlying t = some (.slice e)) (hinfo : (P.info? e).map (fun i => (i.zero, i.size, i.bytes)) = some (some z, d.sz, bytes)) (hz : z.cells.size = d.sz) (hs0 : 0 < d.sz) (hb0 : 0 < bytes)
    (v : Value) (xs : List α) (p : α) (cs : List Value) (hs : a.eval s = v) (hx : a.eval x = .slice (some ⟨W.heap.size, 0, none⟩) 1 1) (hp : d.M W 0 (fun _ => False) p cs)
    (H : Aside0 (Sep b W (row d e v xs :: post))) (hl : (xs.length + 1) * bytes ≤ 140737488355328)
    (h : ∀ A1 c1 W', Aside0 (Sep b W' (row d e (.slice A1 (xs ++ [p]).length c1) (xs ++ [p]) :: post)) → wpList P ops Q rest (a.put o.dst (.slice A1 (xs ++ [p]).length c1)) W') :
    wpList P ops Q (o :: rest) a (W.alloc (.cells cs.toArray e)) := app_row d hd [] post hgd s x t e z bytes ho ht hinfo hz hs0 hb0 v xs p cs hs hx hp H hl h
theorem app_row1 {P : Program} {ops : Array Oper} {rest : List Oper} {o : Oper} {a : Act} {Q : Exit → Act → World → Prop} {b W : World} {α : Type} {r0 : Res} {post : List Res} (d : Kd α) (hd : Flat d) (hgd : o.guard = none) (s x : Operand) (t e : TypeId) (z : Value) (bytes : Nat)
    (ho : o.op = .call { callee := .builtin .append, args := #[s, x], argTypes := #[t, t] })
    (ht : P.underlying t = some (.slice e)) (hinfo : (P.info? e).map (fun i => (i.zero, i.size, i.bytes)) = some (some z, d.sz, bytes)) (hz : z.cells.size = d.sz) (hs0 : 0 < d.sz) (hb0 : 0 < bytes)
    (v : Value) (xs : List α) (p : α) (cs : List Value) (hs : a.eval s = v) (hx : a.eval x = .slice (some ⟨W.heap.size, 0, none⟩) 1 1) (hp : d.M W 0 (fun _ => False) p cs)
    (H : Aside0 (Sep b W (r0 :: row d e v xs :: post))) (hl : (xs.length + 1) * bytes ≤ 140737488355328)
    (h : ∀ A1 c1 W', Aside0 (Sep b W' (r0 :: row d e (.slice A1 (xs ++ [p]).length c1) (xs ++ [p]) :: post)) → wpList P ops Q rest (a.put o.dst (.slice A1 (xs ++ [p]).length c1)) W') :
    wpList P ops Q (o :: rest) a (W.alloc (.cells cs.toArray e)) := app_row d hd [r0] post hgd s x t e z bytes ho ht hinfo hz hs0 hb0 v xs p cs hs hx hp H hl h
theorem app_row2 {P : Program} {ops : Array Oper} {rest : List Oper} {o : Oper} {a : Act} {Q : Exit → Act → World → Prop} {b W : World} {α : Type} {r0 r1 : Res} {post : List Res} (d : Kd α) (hd : Flat d) (hgd : o.guard = none) (s x : Operand) (t e : TypeId) (z : Value) (bytes : Nat)
    (ho : o.op = .call { callee := .builtin .append, args := #[s, x], argTypes := #[t, t] })
    (ht : P.underlying t = some (.slice e)) (hinfo : (P.info? e).map (fun i => (i.zero, i.size, i.bytes)) = some (some z, d.sz, bytes)) (hz : z.cells.size = d.sz) (hs0 : 0 < d.sz) (hb0 : 0 < bytes)
    (v : Value) (xs : List α) (p : α) (cs : List Value) (hs : a.eval s = v) (hx : a.eval x = .slice (some ⟨W.heap.size, 0, none⟩) 1 1) (hp : d.M W 0 (fun _ => False) p cs)
    (H : Aside0 (Sep b W (r0 :: r1 :: row d e v xs :: post))) (hl : (xs.length + 1) * bytes ≤ 140737488355328)
    (h : ∀ A1 c1 W', Aside0 (Sep b W' (r0 :: r1 :: row d e (.slice A1 (xs ++ [p]).length c1) (xs ++ [p]) :: post)) → wpList P ops Q rest (a.put o.dst (.slice A1 (xs ++ [p]).length c1)) W') :
    wpList P ops Q (o :: rest) a (W.alloc (.cells cs.toArray e)) := app_row d hd [r0, r1] post hgd s x t e z bytes ho ht hinfo hz hs0 hb0 v xs p cs hs hx hp H hl h
theorem app_row3 {P : Program} {ops : Array Oper} {rest : List Oper} {o : Oper} {a : Act} {Q : Exit → Act → World → Prop} {b W : World} {α : Type} {r0 r1 r2 : Res} {post : List Res} (d : Kd α) (hd : Flat d) (hgd : o.guard = none) (s x : Operand) (t e : TypeId) (z : Value) (bytes : Nat)
    (ho : o.op = .call { callee := .builtin .append, args := #[s, x], argTypes := #[t, t] })
    (ht : P.underlying t = some (.slice e)) (hinfo : (P.info? e).map (fun i => (i.zero, i.size, i.bytes)) = some (some z, d.sz, bytes)) (hz : z.cells.size = d.sz) (hs0 : 0 < d.sz) (hb0 : 0 < bytes)
    (v : Value) (xs : List α) (p : α) (cs : List Value) (hs : a.eval s = v) (hx : a.eval x = .slice (some ⟨W.heap.size, 0, none⟩) 1 1) (hp : d.M W 0 (fun _ => False) p cs)
    (H : Aside0 (Sep b W (r0 :: r1 :: r2 :: row d e v xs :: post))) (hl : (xs.length + 1) * bytes ≤ 140737488355328)
    (h : ∀ A1 c1 W', Aside0 (Sep b W' (r0 :: r1 :: r2 :: row d e (.slice A1 (xs ++ [p]).length c1) (xs ++ [p]) :: post)) → wpList P ops Q rest (a.put o.dst (.slice A1 (xs ++ [p]).length c1)) W') :
    wpList P ops Q (o :: rest) a (W.alloc (.cells cs.toArray e)) := app_row d hd [r0, r1, r2] post hgd s x t e z bytes ho ht hinfo hz hs0 hb0 v xs p cs hs hx hp H hl h
theorem app_row4 {P : Program} {ops : Array Oper} {rest : List Oper} {o : Oper} {a : Act} {Q : Exit → Act → World → Prop} {b W : World} {α : Type} {r0 r1 r2 r3 : Res} {post : List Res} (d : Kd α) (hd : Flat d) (hgd : o.guard = none) (s x : Operand) (t e : TypeId) (z : Value) (bytes : Nat)
    (ho : o.op = .call { callee := .builtin .append, args := #[s, x], argTypes := #[t, t] })
    (ht : P.underlying t = some (.slice e)) (hinfo : (P.info? e).map (fun i => (i.zero, i.size, i.bytes)) = some (some z, d.sz, bytes)) (hz : z.cells.size = d.sz) (hs0 : 0 < d.sz) (hb0 : 0 < bytes)
    (v : Value) (xs : List α) (p : α) (cs : List Value) (hs : a.eval s = v) (hx : a.eval x = .slice (some ⟨W.heap.size, 0, none⟩) 1 1) (hp : d.M W 0 (fun _ => False) p cs)
    (H : Aside0 (Sep b W (r0 :: r1 :: r2 :: r3 :: row d e v xs :: post))) (hl : (xs.length + 1) * bytes ≤ 140737488355328)
    (h : ∀ A1 c1 W', Aside0 (Sep b W' (r0 :: r1 :: r2 :: r3 :: row d e (.slice A1 (xs ++ [p]).length c1) (xs ++ [p]) :: post)) → wpList P ops Q rest (a.put o.dst (.slice A1 (xs ++ [p]).length c1)) W') :
    wpList P ops Q (o :: rest) a (W.alloc (.cells cs.toArray e)) := app_row d hd [r0, r1, r2, r3] post hgd s x t e z bytes ho ht hinfo hz hs0 hb0 v xs p cs hs hx hp H hl h
theorem app_row5 {P : Program} {ops : Array Oper} {rest : List Oper} {o : Oper} {a : Act} {Q : Exit → Act → World → Prop} {b W : World} {α : Type} {r0 r1 r2 r3 r4 : Res} {post : List Res} (d : Kd α) (hd : Flat d) (hgd : o.guard = none) (s x : Operand) (t e : TypeId) (z : Value) (bytes : Nat)
    (ho : o.op = .call { callee := .builtin .append, args := #[s, x], argTypes := #[t, t] })
    (ht : P.underlying t = some (.slice e)) (hinfo : (P.info? e).map (fun i => (i.zero, i.size, i.bytes)) = some (some z, d.sz, bytes)) (hz : z.cells.size = d.sz) (hs0 : 0 < d.sz) (hb0 : 0 < bytes)
    (v : Value) (xs : List α) (p : α) (cs : List Value) (hs : a.eval s = v) (hx : a.eval x = .slice (some ⟨W.heap.size, 0, none⟩) 1 1) (hp : d.M W 0 (fun _ => False) p cs)
    (H : Aside0 (Sep b W (r0 :: r1 :: r2 :: r3 :: r4 :: row d e v xs :: post))) (hl : (xs.length + 1) * bytes ≤ 140737488355328)
    (h : ∀ A1 c1 W', Aside0 (Sep b W' (r0 :: r1 :: r2 :: r3 :: r4 :: row d e (.slice A1 (xs ++ [p]).length c1) (xs ++ [p]) :: post)) → wpList P ops Q rest (a.put o.dst (.slice A1 (xs ++ [p]).length c1)) W') :
    wpList P ops Q (o :: rest) a (W.alloc (.cells cs.toArray e)) := app_row d hd [r0, r1, r2, r3, r4] post hgd s x t e z bytes ho ht hinfo hz hs0 hb0 v xs p cs hs hx hp H hl h
end Go.Proofs.Ytanonhipicoigaa.Sp
