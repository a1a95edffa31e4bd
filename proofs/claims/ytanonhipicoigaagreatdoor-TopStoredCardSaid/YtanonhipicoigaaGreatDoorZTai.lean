import Derived.Test.YtanonhipicoigaaGreatDoorProg
import Derived.WalkLawsBesides
import Derived.Test.YtanonhipicoigaaGreatDoorZTag
import Derived.Test.YtanonhipicoigaaGreatDoorZTah
import Derived.Deep.Slices
import Derived.Deep.Fields
import Derived.ChangeSame
import Derived.Lib.SmallJoins
import Derived.Deep.MidRow
import Derived.Laws.CopyOwn
import Derived.Lib.BufferWrite
import Derived.BigFrame
import Derived.RangeFuncNested
import Derived.RangeFuncLeaves
import Derived.RangeFuncCalls
import Derived.TacticsIn
import Derived.TacticsInMore
import Derived.Outline
import Derived.OpenShut
import Derived.WalkSpells
set_option linter.unusedVariables false
set_option linter.unusedSimpArgs false
set_option maxRecDepth 100000
namespace Go.Proofs.U
open Go.RowKit Go.Proofs.aA.aK Go.Proofs.aA.aW Go.Proofs.aA.aZ
attribute [local go_sem] gV gW iU iV fU fV gZ iC
def qeX : Option Int → Value
 | none => .nilIface
 | some c => .iface 258 (.int .i64 c)
theorem eG : qeX none = .nilIface := rfl
theorem eH (c : Int) : qeX (some c) = .iface 258 (.int .i64 c) := rfl
theorem info5 : (Tryz.prog.info? 5).map (fun i => (i.zero, i.size, i.bytes)) = some (some (.int .u8 0), 1, 1) := by kernel_rfl
theorem info9 : (Tryz.prog.info? 9).map (fun i => (i.zero, i.size, i.bytes)) = some (some (.string ⟨#[]⟩), 1, 16) := by kernel_rfl
theorem OD : (Tryz.prog.info? 41).map (fun i => (i.zero, i.size, i.bytes)) = some (some (.agg #[(.int .u64 0), (.string ⟨#[]⟩), (.bool false)]), 3, 32) := by kernel_rfl
theorem qd6 : (Tryz.prog.info? 62).map (fun i => (i.zero, i.size, i.bytes)) = some (some (.agg #[(.int .u64 0), (.string ⟨#[]⟩)]), 2, 24) := by kernel_rfl
theorem EU : (Tryz.prog.info? 67).map (fun i => (i.zero, i.size, i.bytes)) = some (some (.agg #[(.string ⟨#[]⟩), (.string ⟨#[]⟩), (.int .i64 0)]), 3, 40) := by kernel_rfl
structure S67 where
 f0 : ByteArray
 f1 : ByteArray
 f2 : Int
def z67 : S67 := ⟨(⟨#[]⟩ : ByteArray), (⟨#[]⟩ : ByteArray), (0 : Int)⟩
def k67 : Kd S67 := Kd.iso (Kd.pair Kd.string (Kd.pair Kd.string (Kd.int .i64))) (fun x : S67 => (x.f0, x.f1, x.f2))
theorem QX {w : World} {x : S67} {cs : List Value} (h : k67.K w x cs) : cs = [.string x.f0, .string x.f1, .int .i64 x.f2] := by
 obtain ⟨_, _, rfl, rfl, ⟨_, _, rfl, rfl, rfl⟩⟩ := h
 exact rfl
theorem ML {w : World} {base : Nat} {ok : Nat → Prop} {x : S67} {cs : List Value} (h : k67.M w base ok x cs) : cs = [.string x.f0, .string x.f1, .int .i64 x.f2] := by
 obtain ⟨_, _, rfl, rfl, ⟨_, _, rfl, rfl, rfl⟩⟩ := h
 exact rfl
theorem yV (w : World) (base : Nat) (ok : Nat → Prop) (x : S67)  : k67.M w base ok x [.string x.f0, .string x.f1, .int .i64 x.f2] := ⟨[.string x.f0], [.string x.f1, .int .i64 x.f2], rfl, rfl, ⟨[.string x.f1], [.int .i64 x.f2], rfl, rfl, rfl⟩⟩
def dX (xs : List S67) (i : Int) : S67 := xs.getD i.toNat z67
theorem JR {w : World} {A : Option Addr} {n : Nat} {xs : List S67} (h : Kd.C k67 w A n xs) (i : Int) (h0 : 0 ≤ i) (h1 : i < n) : ∃ ad , A = some ad ∧ w.cell? (ad.add (i.toNat * 3)) = some (.string (dX xs i).f0) ∧ w.cell? ⟨(ad.add (i.toNat * 3)).block, (ad.add (i.toNat * 3)).off + 1, none⟩ = some (.string (dX xs i).f1) ∧ w.cell? ⟨(ad.add (i.toNat * 3)).block, (ad.add (i.toNat * 3)).off + 2, none⟩ = some (.int .i64 (dX xs i).f2) := by
 obtain ⟨ad, c, e, _, hK, hc0⟩ := Kd.GN h z67 i h0 h1
 have hc : ∀ j u, c[j]? = some u → w.cell? (ad.add (i.toNat * 3 + j)) = some u := hc0
 obtain rfl := QX hK
 exact ⟨ad, e, hc 0 _ rfl, by rw [← lI _ _ 1 (by omega)]; exact hc 1 _ rfl, by rw [← lI _ _ 2 (by omega)]; exact hc 2 _ rfl⟩
structure S62 where
 f0 : Int
 f1 : ByteArray
def k62 : Kd S62 := Kd.iso (Kd.pair (Kd.int .u64) Kd.string) (fun x : S62 => (x.f0, x.f1))
theorem qbg {w : World} {x : S62} {cs : List Value} (h : k62.K w x cs) : cs = [.int .u64 x.f0, .string x.f1] := by
 obtain ⟨_, _, rfl, rfl, rfl⟩ := h
 exact rfl
theorem Z4 {w : World} {base : Nat} {ok : Nat → Prop} {x : S62} {cs : List Value} (h : k62.M w base ok x cs) : cs = [.int .u64 x.f0, .string x.f1] := by
 obtain ⟨_, _, rfl, rfl, rfl⟩ := h
 exact rfl
theorem W9 (w : World) (base : Nat) (ok : Nat → Prop) (x : S62)  : k62.M w base ok x [.int .u64 x.f0, .string x.f1] := ⟨[.int .u64 x.f0], [.string x.f1], rfl, rfl, rfl⟩
structure S41 where
 f0 : Int
 f1 : ByteArray
 f2 : Bool
def z41 : S41 := ⟨(0 : Int), (⟨#[]⟩ : ByteArray), false⟩
def k41 : Kd S41 := Kd.iso (Kd.pair (Kd.int .u64) (Kd.pair Kd.string Kd.bool)) (fun x : S41 => (x.f0, x.f1, x.f2))
theorem DK {w : World} {x : S41} {cs : List Value} (h : k41.K w x cs) : cs = [.int .u64 x.f0, .string x.f1, .bool x.f2] := by
 obtain ⟨_, _, rfl, rfl, ⟨_, _, rfl, rfl, rfl⟩⟩ := h
 exact rfl
theorem MN {w : World} {base : Nat} {ok : Nat → Prop} {x : S41} {cs : List Value} (h : k41.M w base ok x cs) : cs = [.int .u64 x.f0, .string x.f1, .bool x.f2] := by
 obtain ⟨_, _, rfl, rfl, ⟨_, _, rfl, rfl, rfl⟩⟩ := h
 exact rfl
theorem qd7 (w : World) (x : S41)  : k41.K w x [.int .u64 x.f0, .string x.f1, .bool x.f2] := ⟨[.int .u64 x.f0], [.string x.f1, .bool x.f2], rfl, rfl, ⟨[.string x.f1], [.bool x.f2], rfl, rfl, rfl⟩⟩
theorem I8 (w : World) (base : Nat) (ok : Nat → Prop) (x : S41)  : k41.M w base ok x [.int .u64 x.f0, .string x.f1, .bool x.f2] := ⟨[.int .u64 x.f0], [.string x.f1, .bool x.f2], rfl, rfl, ⟨[.string x.f1], [.bool x.f2], rfl, rfl, rfl⟩⟩
def iD (xs : List S41) (i : Int) : S41 := xs.getD i.toNat z41
theorem OE {w : World} {A : Option Addr} {n : Nat} {xs : List S41} (h : Kd.C k41 w A n xs) (i : Int) (h0 : 0 ≤ i) (h1 : i < n) : ∃ ad , A = some ad ∧ w.cell? (ad.add (i.toNat * 3)) = some (.int .u64 (iD xs i).f0) ∧ w.cell? ⟨(ad.add (i.toNat * 3)).block, (ad.add (i.toNat * 3)).off + 1, none⟩ = some (.string (iD xs i).f1) ∧ w.cell? ⟨(ad.add (i.toNat * 3)).block, (ad.add (i.toNat * 3)).off + 2, none⟩ = some (.bool (iD xs i).f2) := by
 obtain ⟨ad, c, e, _, hK, hc0⟩ := Kd.GN h z41 i h0 h1
 have hc : ∀ j u, c[j]? = some u → w.cell? (ad.add (i.toNat * 3 + j)) = some u := hc0
 obtain rfl := DK hK
 exact ⟨ad, e, hc 0 _ rfl, by rw [← lI _ _ 1 (by omega)]; exact hc 1 _ rfl, by rw [← lI _ _ 2 (by omega)]; exact hc 2 _ rfl⟩
end Go.Proofs.U
namespace Go.Proofs.U
open Go.ChangeShapes Go.WideShapes Go.Deep Go.RowKit Go.Proofs.aA.aK Go.Proofs.aA.aW Go.Proofs.aA.aZ
theorem XA {α : Type} {Q : Nat → α → Prop} (n : Nat) (h : ∀ i, i < n → ∃ x, Q i x) : ∃ l : List α, l.length = n ∧ ∀ (i : Nat) (x : α), l[i]? = some x → Q i x := by
 induction n with
 | zero => exact ⟨[], rfl, by simp⟩
 | succ n ih =>
  obtain ⟨l, hl, hq⟩ := ih (fun i hi => h i (by omega))
  obtain ⟨x, hx⟩ := h n (by omega)
  refine ⟨l ++ [x], by simp [hl], fun i y hy => ?_⟩
  rcases Nat.lt_or_ge i n with g | g
  ·rw [List.getElem?_append_left (by omega)] at hy
   exact hq i y hy
  ·rw [List.getElem?_append_right (by omega)] at hy
   have : i - l.length = 0 := by
    have := (List.getElem?_eq_some_iff.1 hy).1
    simpa using this
   rw [this] at hy
   simp at hy
   subst hy
   obtain rfl : i = n := by omega
   exact hx
section
variable {H : Type} {enc : TypeId × Value → H} {w : World} {base : Nat} {held : Bool}
end
end Go.Proofs.U
namespace Go.Proofs.U
open Go.ChangeShapes Go.WideShapes Go.Deep Go.RowKit Go.Proofs.aA.aK Go.Proofs.aA.aW Go.Proofs.aA.aZ
section
variable {H : Type} {enc : TypeId × Value → H} {w : World} {base : Nat} {held : Bool}
theorem QY {fuel : Nat} {A : Option Addr} {len cap : Nat} {x : DataW H × List MemPlace} (h : DataW.trod enc Tryz.prog w base (fun _ => true) held fuel 23 [.slice A len cap] = some x) :
  ∃ l : List Int, len = l.length ∧ len ≤ cap ∧ Kd.C (Kd.int .i64) w A len l := by
 rcases open_slice Tryz.underlying23 h with h0 | ⟨a, len', cap', m, n, D, Pl, hcs, hb, hl, hm, hmm, hx, hi⟩
 ·obtain ⟨h0, _⟩ := h0
  simp only [List.cons.injEq, and_true, Value.slice.injEq] at h0
  obtain ⟨rfl, rfl, rfl⟩ := h0
  exact ⟨[], rfl, Nat.le_refl _, Kd.QS _ _⟩
 ·simp only [List.cons.injEq, and_true, Value.slice.injEq] at hcs
  obtain ⟨rfl, rfl, rfl⟩ := hcs
  have key : ∀ i, i < len → ∃ p : Int, ∀ j u, [Value.int .i64 p][j]? = some u → w.cell? (a.add (i * 1 + j)) = some u := by
   intro i hi2
   obtain ⟨cs', hc, ht'⟩ := hi i (by rw [hmm]; simp; omega)
   rw [show Tryz.prog.cellsOf 3 = 1 by kernel_rfl] at hc
   obtain ⟨_, hcl, hat⟩ := World.cells?_some hc
   obtain ⟨s2, q2, _⟩ := DataW.trod_int Tryz.underlying3 ht'
   subst q2
   refine ⟨s2, fun j u hu => ?_⟩
   have hj : j < 1 := (List.getElem?_eq_some_iff.1 hu).1
   have := hat j hj
   rw [← Go.Deep.add_add, this]
   exact hu
  obtain ⟨l, hll, hq⟩ := XA len key
  refine ⟨l, hll.symm, hl, hll, by unfold maxLen at hm; omega, fun _ => ⟨a, rfl, fun j p hj => ⟨[Value.int .i64 p], rfl, rfl, ?_⟩⟩⟩
  exact hq j p hj
theorem JU {fuel : Nat} {A : Option Addr} {len cap : Nat} {x : DataW H × List MemPlace} (h : DataW.trod enc Tryz.prog w base (fun _ => true) held fuel 22 [.slice A len cap] = some x) :
  ∃ l : List ByteArray, len = l.length ∧ len ≤ cap ∧ Kd.C Kd.string w A len l := by
 rcases open_slice Tryz.underlying22 h with h0 | ⟨a, len', cap', m, n, D, Pl, hcs, hb, hl, hm, hmm, hx, hi⟩
 ·obtain ⟨h0, _⟩ := h0
  simp only [List.cons.injEq, and_true, Value.slice.injEq] at h0
  obtain ⟨rfl, rfl, rfl⟩ := h0
  exact ⟨[], rfl, Nat.le_refl _, Kd.QS _ _⟩
 ·simp only [List.cons.injEq, and_true, Value.slice.injEq] at hcs
  obtain ⟨rfl, rfl, rfl⟩ := hcs
  have key : ∀ i, i < len → ∃ p : ByteArray, ∀ j u, [Value.string p][j]? = some u → w.cell? (a.add (i * 1 + j)) = some u := by
   intro i hi2
   obtain ⟨cs', hc, ht'⟩ := hi i (by rw [hmm]; simp; omega)
   rw [show Tryz.prog.cellsOf 9 = 1 by kernel_rfl] at hc
   obtain ⟨_, hcl, hat⟩ := World.cells?_some hc
   obtain ⟨s2, q2, _⟩ := DataW.trod_string Tryz.underlying9 ht'
   subst q2
   refine ⟨s2, fun j u hu => ?_⟩
   have hj : j < 1 := (List.getElem?_eq_some_iff.1 hu).1
   have := hat j hj
   rw [← Go.Deep.add_add, this]
   exact hu
  obtain ⟨l, hll, hq⟩ := XA len key
  refine ⟨l, hll.symm, hl, hll, by unfold maxLen at hm; omega, fun _ => ⟨a, rfl, fun j p hj => ⟨[Value.string p], rfl, rfl, ?_⟩⟩⟩
  exact hq j p hj
end
end Go.Proofs.U
namespace Go.Proofs.Sp
open Go.RowKit Go.Proofs.aA.aK Go.Proofs.aA.aW Go.Proofs.aA.aZ
structure Res where
 holds : World → Prop
 foot : Nat → Prop
 lives : ∀ {W W' : World}, (∀ g, foot g → g < W.heap.size → W'.heap[g]? = W.heap[g]?) → holds W → holds W'
 lt : ∀ {W : World} {g : Nat}, holds W → foot g → g < W.heap.size
def box (g : Nat) (cs : List Value) (t : TypeId) : Res where
 holds W := W.heap[g]? = some (.cells cs.toArray t (0, 0))
 foot k := k = g
 lives h hb := (h g rfl (gQ hb)).trans hb
 lt h e := by rw [e]; exact gQ h
def thing (g : Nat) (o : Obj) : Res where
 holds W := W.heap[g]? = some o
 foot k := k = g
 lives h hb := (h g rfl (gQ hb)).trans hb
 lt h e := by rw [e]; exact gQ h
def row {α : Type} (d : Kd α) (e : TypeId) (v : Value) (l : List α) : Res where
 holds W := d.R e W 0 (fun k => v.ownBlock = some k) v l
 foot k := v.ownBlock = some k
 lives h hr := Kd.UO hr (fun k ho hlt => h k ho hlt)
 lt h e := by
  obtain ⟨inner, ho⟩ := Kd.qdD h
  exact qa3 ho _ e
structure Upd (W W' : World) (S : Nat → Prop) : Prop where
 os : W'.os = W.os
 tape : W'.tape = W.tape
 output : W'.output = W.output
 size : W.heap.size ≤ W'.heap.size
 block : ∀ k, k < W.heap.size → ¬ S k → W'.heap[k]? = W.heap[k]?
theorem Upd.of_below {W W' : World} (h : Below W.heap.size W W') (S : Nat → Prop) : Upd W W' S := ⟨h.os, h.tape, h.output, h.size, fun k hk _ => h.block k hk⟩
theorem Upd.refl (W : World) (S : Nat → Prop) : Upd W W S := ⟨rfl, rfl, rfl, Nat.le_refl _, fun _ _ _ => rfl⟩
theorem Upd.trans {W W' W'' : World} {S S' : Nat → Prop} (h : Upd W W' S) (k : Upd W' W'' S') (hs : ∀ g, S' g → S g ∨ W.heap.size ≤ g) : Upd W W'' S :=
 ⟨k.os.trans h.os, k.tape.trans h.tape, k.output.trans h.output, Nat.le_trans h.size k.size, fun g hg hn => (k.block g (Nat.lt_of_lt_of_le hg h.size) (fun h2 => (hs g h2).elim hn (fun h3 => by omega))).trans (h.block g hg hn)⟩
theorem Upd.mono {W W' : World} {S S' : Nat → Prop} (h : Upd W W' S) (hs : ∀ g, S g → S' g) : Upd W W' S' := ⟨h.os, h.tape, h.output, h.size, fun k hk hn => h.block k hk (fun h2 => hn (hs k h2))⟩
theorem Upd.below {W W' : World} {S : Nat → Prop} (h : Upd W W' S) (hs : ∀ g, S g → W.heap.size ≤ g) : Below W.heap.size W W' := ⟨h.os, h.tape, h.output, h.size, fun k hk => h.block k hk (fun h2 => by have := hs k h2; omega)⟩
theorem Upd.setCell (W : World) (p : Addr) (v : Value) : Upd W (W.setCell p v) (fun k => k = p.block) := ⟨rfl, rfl, rfl, by simp [World.setCell], fun k _ hn => Below.heap_setCell W p v k hn⟩
theorem Upd.sU {W W' : World} {r : Option Nat} (h : W.grownBy W' r) : Upd W W' (fun k => r = some k) := ⟨h.os, h.tape, h.output, h.size, fun k hk hn => h.block k hk (fun e => hn e.symm)⟩
structure Sep (b W : World) (rs : List Res) : Prop where
 below : Below b.heap.size b W
 all : ∀ r, r ∈ rs → r.holds W
 base : ∀ r, r ∈ rs → ∀ g, r.foot g → b.heap.size ≤ g
 apart : rs.Pairwise (fun r s => ∀ g, r.foot g → ¬ s.foot g)
theorem Sep.start (b : World) : Sep b b [] := ⟨Below.refl _ _, by simp, by simp, .nil⟩
section
variable {b W W' : World} {rs rs' pre post : List Res} {r r' : Res}
theorem Sep.step (H : Sep b W rs) (h : Below W.heap.size W W') : Sep b W' rs :=
 ⟨JE H.below H.below.size h, fun r hr => r.lives (fun g _ hl => h.block g hl) (H.all r hr), H.base, H.apart⟩
theorem Sep.drew (H : Sep b W rs) : Sep b W.drew rs := H.step (fK (Below.refl _ _))
theorem Sep.drewN (H : Sep b W rs) (n : Nat) : Sep b (W.drewN n) rs := H.step (aT (Below.refl _ _) n)
theorem Sep.news (H : Sep b W rs) (h : Below W.heap.size W W') (hn : ∀ r, r ∈ rs' → r.holds W' ∧ ∀ g, r.foot g → W.heap.size ≤ g) (ha : rs'.Pairwise (fun r s => ∀ g, r.foot g → ¬ s.foot g)) : Sep b W' (rs' ++ rs) := by
 have H' := H.step h
 refine ⟨H'.below, fun r hr => ?_, fun r hr g hg => ?_, List.pairwise_append.2 ⟨ha, H.apart, fun r hr s hs g hg hg' => ?_⟩⟩
 ·rcases List.mem_append.1 hr with hr | hr
  ·exact (hn r hr).1
  ·exact H'.all r hr
 ·rcases List.mem_append.1 hr with hr | hr
  ·exact Nat.le_trans H.below.size ((hn r hr).2 g hg)
  ·exact H.base r hr g hg
 ·have h1 := (hn r hr).2 g hg
  have h2 := s.lt (H.all s hs) hg'
  omega
theorem Sep.push (H : Sep b W rs) (h : Below W.heap.size W W') (r : Res) (hr : r.holds W') (hf : ∀ g, r.foot g → W.heap.size ≤ g) : Sep b W' (r :: rs) :=
 H.news (rs' := [r]) h (fun s hs => by rw [List.mem_singleton.1 hs]; exact ⟨hr, hf⟩) (List.pairwise_singleton _ _)
theorem Sep.alloc (H : Sep b W rs) (cs : List Value) (t : TypeId) : Sep b (W.alloc (.cells cs.toArray t (0, 0))) (box W.heap.size cs t :: rs) :=
 H.push (aU (Below.refl _ _) _) _ (kK W _) (fun g hg => by rw [show g = W.heap.size from hg]; exact Nat.le_refl _)
theorem Sep.drop (H : Sep b W (pre ++ r :: post)) : Sep b W (pre ++ post) := by
 have hs : (pre ++ post).Sublist (pre ++ r :: post) := List.Sublist.append (List.Sublist.refl _) (List.sublist_cons_self _ _)
 exact ⟨H.below, fun s hm => H.all s (hs.subset hm), fun s hm => H.base s (hs.subset hm), H.apart.sublist hs⟩
theorem Sep.perm (H : Sep b W rs) (h : rs.Perm rs') : Sep b W rs' := ⟨H.below, fun s hm => H.all s (h.mem_iff.2 hm), fun s hm => H.base s (h.mem_iff.2 hm), (h.pairwise_iff (fun hxy g hg hg' => hxy g hg' hg)).1 H.apart⟩
theorem Sep.upd (H : Sep b W (pre ++ r :: post)) (h : Upd W W' r.foot) (hr : r'.holds W') (hf : ∀ g, r'.foot g → r.foot g ∨ W.heap.size ≤ g) : Sep b W' (pre ++ r' :: post) := by
 have hr0 : r ∈ pre ++ r :: post := by simp
 have hap := List.pairwise_append.1 H.apart
 have qeY := List.pairwise_cons.1 hap.2.1
 have hother : ∀ s, s ∈ pre ++ post → (∀ g, r.foot g → ¬ s.foot g) ∧ s.holds W := by
  intro s hs
  rcases List.mem_append.1 hs with hs | hs
  ·exact ⟨fun g hg hg' => hap.2.2 s hs r (by simp) g hg' hg, H.all s (by simp [hs])⟩
  ·exact ⟨fun g hg hg' => qeY.1 s hs g hg hg', H.all s (by simp [hs])⟩
 have hkeep : ∀ s, s ∈ pre ++ post → s.holds W' := fun s hs => s.lives (fun g hg hl => h.block g hl (fun h2 => (hother s hs).1 g h2 hg)) (hother s hs).2
 have hnew : ∀ s, s ∈ pre ++ post → ∀ g, r'.foot g → ¬ s.foot g := fun s hs g hg hg' => (hf g hg).elim (fun h2 => (hother s hs).1 g h2 hg') (fun h2 => by have := s.lt (hother s hs).2 hg'; omega)
 refine ⟨?_, ?_, ?_, List.pairwise_append.2 ⟨hap.1, List.pairwise_cons.2 ⟨fun s hs => hnew s (by simp [hs]), qeY.2⟩, ?_⟩⟩
 ·exact H.below.trans ⟨h.os, h.tape, h.output, h.size, fun k hk => h.block k (Nat.lt_of_lt_of_le hk H.below.size) (fun h2 => by have := H.base r hr0 k h2; omega)⟩
 ·intro s hs
  rcases List.mem_append.1 hs with hs | hs
  ·exact hkeep s (by simp [hs])
  ·rcases List.mem_cons.1 hs with rfl | hs
   ·exact hr
   ·exact hkeep s (by simp [hs])
 ·intro s hs g hg
  rcases List.mem_append.1 hs with hs | hs
  ·exact H.base s (by simp [hs]) g hg
  ·rcases List.mem_cons.1 hs with rfl | hs
   ·rcases hf g hg with h2 | h2
    ·exact H.base r hr0 g h2
    ·exact Nat.le_trans H.below.size h2
   ·exact H.base s (by simp [hs]) g hg
 ·intro s hs t ht g hg hg'
  rcases List.mem_cons.1 ht with rfl | ht
  ·exact hnew s (by simp [hs]) g hg' hg
  ·exact hap.2.2 s hs t (by simp [ht]) g hg hg'
theorem Sep.set {g : Nat} {cs cs' : List Value} {t : TypeId} (H : Sep b W (pre ++ box g cs t :: post)) (j : Nat) (v : Value) (e : cs.set j v = cs') : Sep b (W.setCell ⟨g, j, none⟩ v) (pre ++ box g cs' t :: post) := by
 refine H.upd (r' := box g cs' t) (Upd.setCell W _ v) ?_ (fun k hk => .inl hk)
 have hb : W.heap[g]? = some (.cells cs.toArray t (0, 0)) := H.all (box g cs t) (by simp)
 show (W.setCell ⟨g, j, none⟩ v).heap[g]? = some (.cells cs'.toArray t (0, 0))
 exact gI hb j v (by rw [← e]; simp)
theorem Sep.lD {g : Nat} {cs : List Value} {t : TypeId} (H : Sep b W rs) (hm : box g cs t ∈ rs) : W.heap[g]? = some (.cells cs.toArray t (0, 0)) := H.all _ hm
theorem Sep.cell {g : Nat} {cs : List Value} {t : TypeId} (H : Sep b W rs) (hm : box g cs t ∈ rs) (j : Nat) : W.cell? ⟨g, j, none⟩ = cs[j]? := by
 rw [aH (H.lD hm) j]; simp
theorem Sep.frozen {g : Nat} {cs : List Value} {t : TypeId} (H : Sep b W rs) (hm : box g cs t ∈ rs) (j : Nat) : W.frozen? ⟨g, j, none⟩ = false := aG (H.lD hm) j
theorem Sep.qbh {α : Type} {d : Kd α} {e : TypeId} {v : Value} {l : List α} (H : Sep b W rs) (hm : row d e v l ∈ rs) : d.R e W 0 (fun k => v.ownBlock = some k) v l := H.all _ hm
theorem Sep.reads {α : Type} {d : Kd α} {e : TypeId} {A : Option Addr} {n c : Nat} {l : List α} (H : Sep b W rs) (hm : row d e (.slice A n c) l ∈ rs) : n = l.length ∧ l.length ≤ c ∧ d.C W A l.length l := by
 have h := Kd.qbc (H.qbh hm)
 obtain ⟨rfl, h2, h3⟩ := h
 exact ⟨rfl, h2, h3⟩
theorem Sep.came {α : Type} {d : Kd α} {A : Option Addr} {n : Nat} {l : List α} (H : Sep b W rs) (h : d.C b A n l) : d.C W A n l := Kd.fG h H.below
end
theorem aQ {r : Res} {post : List Res} : r ∈ r :: post := by simp
theorem Sep.qcA {b W W' : World} {r r' : Res} {post : List Res} (H : Sep b W (r :: post)) (h : Upd W W' r.foot) (hr : r'.holds W') (hf : ∀ g, r'.foot g → r.foot g ∨ W.heap.size ≤ g) : Sep b W' (r' :: post) := Sep.upd (pre := []) H h hr hf
theorem Sep.set0 {b W : World} {post : List Res} {g : Nat} {cs cs' : List Value} {t : TypeId} (H : Sep b W (box g cs t :: post)) (j : Nat) (v : Value) (e : cs.set j v = cs') : Sep b (W.setCell ⟨g, j, none⟩ v) (box g cs' t :: post) := Sep.set (pre := []) H j v e
theorem Sep.dJ {b W : World} {r : Res} {post : List Res} (H : Sep b W (r :: post)) : Sep b W (post) := Sep.drop (pre := []) H
theorem mem1 {r0 : Res} {r : Res} {post : List Res} : r ∈ r0 :: r :: post := by simp
theorem Sep.set1 {b W : World} {r0 : Res} {post : List Res} {g : Nat} {cs cs' : List Value} {t : TypeId} (H : Sep b W (r0 :: box g cs t :: post)) (j : Nat) (v : Value) (e : cs.set j v = cs') : Sep b (W.setCell ⟨g, j, none⟩ v) (r0 :: box g cs' t :: post) := Sep.set (pre := [r0]) H j v e
theorem Sep.jK {b W : World} {r0 : Res} {r : Res} {post : List Res} (H : Sep b W (r0 :: r :: post)) : Sep b W (r :: r0 :: post) := H.perm (List.perm_middle (l₁ := [r0]) (a := r) (l₂ := post))
theorem Sep.drop1 {b W : World} {r0 : Res} {r : Res} {post : List Res} (H : Sep b W (r0 :: r :: post)) : Sep b W (r0 :: post) := Sep.drop (pre := [r0]) H
theorem mem2 {r0 r1 : Res} {r : Res} {post : List Res} : r ∈ r0 :: r1 :: r :: post := by simp
theorem Sep.set2 {b W : World} {r0 r1 : Res} {post : List Res} {g : Nat} {cs cs' : List Value} {t : TypeId} (H : Sep b W (r0 :: r1 :: box g cs t :: post)) (j : Nat) (v : Value) (e : cs.set j v = cs') : Sep b (W.setCell ⟨g, j, none⟩ v) (r0 :: r1 :: box g cs' t :: post) := Sep.set (pre := [r0, r1]) H j v e
theorem Sep.gY {b W : World} {r0 r1 : Res} {r : Res} {post : List Res} (H : Sep b W (r0 :: r1 :: r :: post)) : Sep b W (r :: r0 :: r1 :: post) := H.perm (List.perm_middle (l₁ := [r0, r1]) (a := r) (l₂ := post))
theorem Sep.drop2 {b W : World} {r0 r1 : Res} {r : Res} {post : List Res} (H : Sep b W (r0 :: r1 :: r :: post)) : Sep b W (r0 :: r1 :: post) := Sep.drop (pre := [r0, r1]) H
theorem mem3 {r0 r1 r2 : Res} {r : Res} {post : List Res} : r ∈ r0 :: r1 :: r2 :: r :: post := by simp
theorem Sep.eU {b W : World} {r0 r1 r2 : Res} {post : List Res} {g : Nat} {cs cs' : List Value} {t : TypeId} (H : Sep b W (r0 :: r1 :: r2 :: box g cs t :: post)) (j : Nat) (v : Value) (e : cs.set j v = cs') : Sep b (W.setCell ⟨g, j, none⟩ v) (r0 :: r1 :: r2 :: box g cs' t :: post) := Sep.set (pre := [r0, r1, r2]) H j v e
theorem Sep.jQ {b W : World} {r0 r1 r2 : Res} {r : Res} {post : List Res} (H : Sep b W (r0 :: r1 :: r2 :: r :: post)) : Sep b W (r :: r0 :: r1 :: r2 :: post) := H.perm (List.perm_middle (l₁ := [r0, r1, r2]) (a := r) (l₂ := post))
theorem Sep.jU {b W : World} {r0 r1 r2 : Res} {r : Res} {post : List Res} (H : Sep b W (r0 :: r1 :: r2 :: r :: post)) : Sep b W (r0 :: r1 :: r2 :: post) := Sep.drop (pre := [r0, r1, r2]) H
theorem dM {r0 r1 r2 r3 : Res} {r : Res} {post : List Res} : r ∈ r0 :: r1 :: r2 :: r3 :: r :: post := by simp
theorem Sep.kM {b W : World} {r0 r1 r2 r3 : Res} {post : List Res} {g : Nat} {cs cs' : List Value} {t : TypeId} (H : Sep b W (r0 :: r1 :: r2 :: r3 :: box g cs t :: post)) (j : Nat) (v : Value) (e : cs.set j v = cs') : Sep b (W.setCell ⟨g, j, none⟩ v) (r0 :: r1 :: r2 :: r3 :: box g cs' t :: post) := Sep.set (pre := [r0, r1, r2, r3]) H j v e
theorem Sep.iL {b W : World} {r0 r1 r2 r3 : Res} {r : Res} {post : List Res} (H : Sep b W (r0 :: r1 :: r2 :: r3 :: r :: post)) : Sep b W (r :: r0 :: r1 :: r2 :: r3 :: post) := H.perm (List.perm_middle (l₁ := [r0, r1, r2, r3]) (a := r) (l₂ := post))
theorem Sep.oK {b W : World} {r0 r1 r2 r3 : Res} {r : Res} {post : List Res} (H : Sep b W (r0 :: r1 :: r2 :: r3 :: r :: post)) : Sep b W (r0 :: r1 :: r2 :: r3 :: post) := Sep.drop (pre := [r0, r1, r2, r3]) H
theorem eF {r0 r1 r2 r3 r4 : Res} {r : Res} {post : List Res} : r ∈ r0 :: r1 :: r2 :: r3 :: r4 :: r :: post := by simp
theorem Sep.iJ {b W : World} {r0 r1 r2 r3 r4 : Res} {post : List Res} {g : Nat} {cs cs' : List Value} {t : TypeId} (H : Sep b W (r0 :: r1 :: r2 :: r3 :: r4 :: box g cs t :: post)) (j : Nat) (v : Value) (e : cs.set j v = cs') : Sep b (W.setCell ⟨g, j, none⟩ v) (r0 :: r1 :: r2 :: r3 :: r4 :: box g cs' t :: post) := Sep.set (pre := [r0, r1, r2, r3, r4]) H j v e
theorem Sep.sW {b W : World} {r0 r1 r2 r3 r4 : Res} {r : Res} {post : List Res} (H : Sep b W (r0 :: r1 :: r2 :: r3 :: r4 :: r :: post)) : Sep b W (r :: r0 :: r1 :: r2 :: r3 :: r4 :: post) := H.perm (List.perm_middle (l₁ := [r0, r1, r2, r3, r4]) (a := r) (l₂ := post))
theorem Sep.xQ {b W : World} {r0 r1 r2 r3 r4 : Res} {r : Res} {post : List Res} (H : Sep b W (r0 :: r1 :: r2 :: r3 :: r4 :: r :: post)) : Sep b W (r0 :: r1 :: r2 :: r3 :: r4 :: post) := Sep.drop (pre := [r0, r1, r2, r3, r4]) H
theorem rP {r0 r1 r2 r3 r4 r5 : Res} {r : Res} {post : List Res} : r ∈ r0 :: r1 :: r2 :: r3 :: r4 :: r5 :: r :: post := by simp
theorem Sep.qcB {b W : World} {r0 r1 r2 r3 r4 r5 : Res} {post : List Res} {g : Nat} {cs cs' : List Value} {t : TypeId} (H : Sep b W (r0 :: r1 :: r2 :: r3 :: r4 :: r5 :: box g cs t :: post)) (j : Nat) (v : Value) (e : cs.set j v = cs') : Sep b (W.setCell ⟨g, j, none⟩ v) (r0 :: r1 :: r2 :: r3 :: r4 :: r5 :: box g cs' t :: post) := Sep.set (pre := [r0, r1, r2, r3, r4, r5]) H j v e
theorem Sep.qJ {b W : World} {r0 r1 r2 r3 r4 r5 : Res} {r : Res} {post : List Res} (H : Sep b W (r0 :: r1 :: r2 :: r3 :: r4 :: r5 :: r :: post)) : Sep b W (r :: r0 :: r1 :: r2 :: r3 :: r4 :: r5 :: post) := H.perm (List.perm_middle (l₁ := [r0, r1, r2, r3, r4, r5]) (a := r) (l₂ := post))
theorem Sep.XB {b W : World} {r0 r1 r2 r3 r4 r5 : Res} {r : Res} {post : List Res} (H : Sep b W (r0 :: r1 :: r2 :: r3 :: r4 :: r5 :: r :: post)) : Sep b W (r0 :: r1 :: r2 :: r3 :: r4 :: r5 :: post) := Sep.drop (pre := [r0, r1, r2, r3, r4, r5]) H
theorem sF {r0 r1 r2 r3 r4 r5 r6 : Res} {r : Res} {post : List Res} : r ∈ r0 :: r1 :: r2 :: r3 :: r4 :: r5 :: r6 :: r :: post := by simp
theorem Sep.zI {b W : World} {r0 r1 r2 r3 r4 r5 r6 : Res} {post : List Res} {g : Nat} {cs cs' : List Value} {t : TypeId} (H : Sep b W (r0 :: r1 :: r2 :: r3 :: r4 :: r5 :: r6 :: box g cs t :: post)) (j : Nat) (v : Value) (e : cs.set j v = cs') : Sep b (W.setCell ⟨g, j, none⟩ v) (r0 :: r1 :: r2 :: r3 :: r4 :: r5 :: r6 :: box g cs' t :: post) := Sep.set (pre := [r0, r1, r2, r3, r4, r5, r6]) H j v e
theorem Sep.EW {b W : World} {r0 r1 r2 r3 r4 r5 r6 : Res} {r : Res} {post : List Res} (H : Sep b W (r0 :: r1 :: r2 :: r3 :: r4 :: r5 :: r6 :: r :: post)) : Sep b W (r :: r0 :: r1 :: r2 :: r3 :: r4 :: r5 :: r6 :: post) := H.perm (List.perm_middle (l₁ := [r0, r1, r2, r3, r4, r5, r6]) (a := r) (l₂ := post))
theorem Sep.qdG {b W : World} {r0 r1 r2 r3 r4 r5 r6 : Res} {r : Res} {post : List Res} (H : Sep b W (r0 :: r1 :: r2 :: r3 :: r4 :: r5 :: r6 :: r :: post)) : Sep b W (r0 :: r1 :: r2 :: r3 :: r4 :: r5 :: r6 :: post) := Sep.drop (pre := [r0, r1, r2, r3, r4, r5, r6]) H
theorem UY {r0 r1 r2 r3 r4 r5 r6 r7 : Res} {r : Res} {post : List Res} : r ∈ r0 :: r1 :: r2 :: r3 :: r4 :: r5 :: r6 :: r7 :: r :: post := by simp
theorem Sep.qd8 {b W : World} {r0 r1 r2 r3 r4 r5 r6 r7 : Res} {r : Res} {post : List Res} (H : Sep b W (r0 :: r1 :: r2 :: r3 :: r4 :: r5 :: r6 :: r7 :: r :: post)) : Sep b W (r :: r0 :: r1 :: r2 :: r3 :: r4 :: r5 :: r6 :: r7 :: post) := H.perm (List.perm_middle (l₁ := [r0, r1, r2, r3, r4, r5, r6, r7]) (a := r) (l₂ := post))
theorem Sep.qdH {b W : World} {r0 r1 r2 r3 r4 r5 r6 r7 : Res} {r : Res} {post : List Res} (H : Sep b W (r0 :: r1 :: r2 :: r3 :: r4 :: r5 :: r6 :: r7 :: r :: post)) : Sep b W (r0 :: r1 :: r2 :: r3 :: r4 :: r5 :: r6 :: r7 :: post) := Sep.drop (pre := [r0, r1, r2, r3, r4, r5, r6, r7]) H
section
variable {P : Program} {ops : Array Oper} {rest : List Oper} {o : Oper} {a : Act} {Q : Exit → Act → World → Prop} {b W : World} {rs : List Res}
theorem bP (hgd : o.guard = none) (H : aC (Sep b W rs)) {cs : List Value} {t : TypeId}
  (hrun : (execOp a.eval o).run P W = .ok (.value (.pointer (some ⟨W.heap.size, 0, none⟩))) (W.alloc (.cells cs.toArray t (0, 0))))
  (h : ∀ g W', aC (Sep b W' (box g cs t :: rs)) → wpList P ops Q rest (a.put o.dst (.pointer (some ⟨g, 0, none⟩))) W') : wpList P ops Q (o :: rest) a W :=
 Kd.vG hgd hrun (h _ _ ⟨H.out.alloc cs t⟩)
theorem bM {W1 : World} {rs1 : List Res} (hgd : o.guard = none) {t : TypeId} {p : Tmp} {v : Operand} (_ho : o.op = .store t (.tmp p) v) (hN : o.dst = none) (hrun : (execOp a.eval o).run P W = .ok .skip W1) (H1 : Sep b W1 rs1)
  (h : ∀ W', aC (Sep b W' rs1) → wpList P ops Q rest a W') : wpList P ops Q (o :: rest) a W :=
 QT hgd _ho hN hrun fun W' e => h W' ⟨by rw [e]; exact H1⟩
theorem uI {K : Act → World → Prop} {W1 : World} (H1 : Sep b W1 rs) (h : ∀ W', aC (Sep b W' rs) → K a W') : K a W1 := h W1 ⟨H1⟩
theorem JV {W1 : World} {c : Code} (H1 : Sep b W1 rs) (h : ∀ W', aC (Sep b W' rs) → Code.wp P c Q a W') : Code.wp P c Q a W1 := h W1 ⟨H1⟩
end
section
variable {α : Type} {d : Kd α} {b W W' : World} {rs : List Res} {e base : Nat} {ok : Nat → Prop} {v : Value} {l : List α}
theorem Sep.jR (H : Sep b W rs) (hb : Below W.heap.size W W') (ho : d.R e W' W.heap.size ok v l) (hd : ∀ {ok1 ok2 : Nat → Prop} {x : α} {cs : List Value}, d.M W' 0 ok1 x cs → d.M W' 0 ok2 x cs) : Sep b W' (row d e v l :: rs) := by
 refine H.push hb (row d e v l) (Kd.JQ hd (Kd.rY ho (Nat.zero_le _)) (fun k hk _ => hk)) (fun g hg => ?_)
 obtain ⟨inner, hown⟩ := Kd.qdD ho
 exact own_base hown g hg
theorem Sep.eX (H : Sep b W rs) : Sep b W (row d e (.slice none 0 0) [] :: rs) :=
 H.push (Below.refl _ _) _ (Kd.xI _ _ _ _ _) (fun g hg => by simp [row, Value.ownBlock] at hg)
end
section
variable {P : Program} {ops : Array Oper} {rest : List Oper} {o : Oper} {a : Act} {Q : Exit → Act → World → Prop} {b W : World} {α : Type}
def Flat (d : Kd α) : Prop := ∀ {W : World} {ok1 ok2 : Nat → Prop} {x : α} {cs : List Value}, d.M W 0 ok1 x cs → d.M W 0 ok2 x cs
theorem I9 (d : Kd α) (hd : Flat d) (pre post : List Res) (hgd : o.guard = none) (s x : Operand) (t e : TypeId) (z : Value) (bytes : Nat)
  (ho : o.op = .call { callee := .builtin .append, args := #[s, x], argTypes := #[t, t] })
  (ht : P.underlying t = some (.slice e)) (hinfo : (P.info? e).map (fun i => (i.zero, i.size, i.bytes)) = some (some z, d.sz, bytes)) (hz : z.cells.size = d.sz) (hs0 : 0 < d.sz) (hb0 : 0 < bytes)
  (v : Value) (xs : List α) (p : α) (cs : List Value) (hs : a.eval s = v) (hx : a.eval x = .slice (some ⟨W.heap.size, 0, none⟩) 1 1) (hp : d.M W 0 (fun _ => False) p cs)
  (H : aC (Sep b W (pre ++ row d e v xs :: post))) (hl : (xs.length + 1) * bytes ≤ 140737488355328)
  (h : ∀ A1 c1 W', aC (Sep b W' (pre ++ row d e (.slice A1 (xs ++ [p]).length c1) (xs ++ [p]) :: post)) → wpList P ops Q rest (a.put o.dst (.slice A1 (xs ++ [p]).length c1)) W') :
  wpList P ops Q (o :: rest) a (W.alloc (.cells cs.toArray e)) := by
 have hr : d.R e W 0 (fun k => v.ownBlock = some k) v xs := H.out.all (row d e v xs) (by simp)
 refine Kd.JG d (w0 := W) 0 hgd s x t e z bytes ho ht hinfo hz hs0 hb0 v xs p cs (fun k => v.ownBlock = some k ∨ W.heap.size ≤ k) (fun _ => False) hs hx hp (fun _ hk => hk.elim) (fun k hk => .inr hk)
  (Kd.rJ hr (fun k hk => .inl hk)) (Below.refl _ _) (Nat.zero_le _) hl ?_
 intro v1 w1 ho1 _ hg hat
 obtain ⟨A1, c1, rfl⟩ := Kd.dW ho1
 refine h A1 c1 w1 ⟨H.out.upd (r' := row d e (.slice A1 (xs ++ [p]).length c1) (xs ++ [p])) (Upd.sU hg) (Kd.JQ hd ho1 (fun k hk _ => hk)) (fun k hk => ?_)⟩
 have hk' : (Value.slice A1 (xs ++ [p]).length c1).ownBlock = some k := hk
 rcases hat with e1 | ⟨b1, e1, hb1⟩
 ·exact .inl (show v.ownBlock = some k by rw [← e1]; exact hk')
 ·rw [e1] at hk'
  injection hk' with hk'
  exact .inr (by omega)
theorem QZ (k : IntKind) : Flat (Kd.int k) := fun h => h
theorem Q5 : Flat Kd.string := fun h => h
end
theorem Q7 {P : Program} {ops : Array Oper} {rest : List Oper} {o : Oper} {a : Act} {Q : Exit → Act → World → Prop} {b W : World} {α : Type} {post : List Res} (d : Kd α) (hd : Flat d) (hgd : o.guard = none) (s x : Operand) (t e : TypeId) (z : Value) (bytes : Nat)
 (ho : o.op = .call { callee := .builtin .append, args := #[s, x], argTypes := #[t, t] })
 (ht : P.underlying t = some (.slice e)) (hinfo : (P.info? e).map (fun i => (i.zero, i.size, i.bytes)) = some (some z, d.sz, bytes)) (hz : z.cells.size = d.sz) (hs0 : 0 < d.sz) (hb0 : 0 < bytes)
 (v : Value) (xs : List α) (p : α) (cs : List Value) (hs : a.eval s = v) (hx : a.eval x = .slice (some ⟨W.heap.size, 0, none⟩) 1 1) (hp : d.M W 0 (fun _ => False) p cs)
 (H : aC (Sep b W (row d e v xs :: post))) (hl : (xs.length + 1) * bytes ≤ 140737488355328)
 (h : ∀ A1 c1 W', aC (Sep b W' (row d e (.slice A1 (xs ++ [p]).length c1) (xs ++ [p]) :: post)) → wpList P ops Q rest (a.put o.dst (.slice A1 (xs ++ [p]).length c1)) W') :
 wpList P ops Q (o :: rest) a (W.alloc (.cells cs.toArray e)) := I9 d hd [] post hgd s x t e z bytes ho ht hinfo hz hs0 hb0 v xs p cs hs hx hp H hl h
theorem qbi {P : Program} {ops : Array Oper} {rest : List Oper} {o : Oper} {a : Act} {Q : Exit → Act → World → Prop} {b W : World} {α : Type} {r0 r1 : Res} {post : List Res} (d : Kd α) (hd : Flat d) (hgd : o.guard = none) (s x : Operand) (t e : TypeId) (z : Value) (bytes : Nat)
 (ho : o.op = .call { callee := .builtin .append, args := #[s, x], argTypes := #[t, t] })
 (ht : P.underlying t = some (.slice e)) (hinfo : (P.info? e).map (fun i => (i.zero, i.size, i.bytes)) = some (some z, d.sz, bytes)) (hz : z.cells.size = d.sz) (hs0 : 0 < d.sz) (hb0 : 0 < bytes)
 (v : Value) (xs : List α) (p : α) (cs : List Value) (hs : a.eval s = v) (hx : a.eval x = .slice (some ⟨W.heap.size, 0, none⟩) 1 1) (hp : d.M W 0 (fun _ => False) p cs)
 (H : aC (Sep b W (r0 :: r1 :: row d e v xs :: post))) (hl : (xs.length + 1) * bytes ≤ 140737488355328)
 (h : ∀ A1 c1 W', aC (Sep b W' (r0 :: r1 :: row d e (.slice A1 (xs ++ [p]).length c1) (xs ++ [p]) :: post)) → wpList P ops Q rest (a.put o.dst (.slice A1 (xs ++ [p]).length c1)) W') :
 wpList P ops Q (o :: rest) a (W.alloc (.cells cs.toArray e)) := I9 d hd [r0, r1] post hgd s x t e z bytes ho ht hinfo hz hs0 hb0 v xs p cs hs hx hp H hl h
theorem qbj {P : Program} {ops : Array Oper} {rest : List Oper} {o : Oper} {a : Act} {Q : Exit → Act → World → Prop} {b W : World} {α : Type} {r0 r1 r2 r3 : Res} {post : List Res} (d : Kd α) (hd : Flat d) (hgd : o.guard = none) (s x : Operand) (t e : TypeId) (z : Value) (bytes : Nat)
 (ho : o.op = .call { callee := .builtin .append, args := #[s, x], argTypes := #[t, t] })
 (ht : P.underlying t = some (.slice e)) (hinfo : (P.info? e).map (fun i => (i.zero, i.size, i.bytes)) = some (some z, d.sz, bytes)) (hz : z.cells.size = d.sz) (hs0 : 0 < d.sz) (hb0 : 0 < bytes)
 (v : Value) (xs : List α) (p : α) (cs : List Value) (hs : a.eval s = v) (hx : a.eval x = .slice (some ⟨W.heap.size, 0, none⟩) 1 1) (hp : d.M W 0 (fun _ => False) p cs)
 (H : aC (Sep b W (r0 :: r1 :: r2 :: r3 :: row d e v xs :: post))) (hl : (xs.length + 1) * bytes ≤ 140737488355328)
 (h : ∀ A1 c1 W', aC (Sep b W' (r0 :: r1 :: r2 :: r3 :: row d e (.slice A1 (xs ++ [p]).length c1) (xs ++ [p]) :: post)) → wpList P ops Q rest (a.put o.dst (.slice A1 (xs ++ [p]).length c1)) W') :
 wpList P ops Q (o :: rest) a (W.alloc (.cells cs.toArray e)) := I9 d hd [r0, r1, r2, r3] post hgd s x t e z bytes ho ht hinfo hz hs0 hb0 v xs p cs hs hx hp H hl h
theorem UZ (W : World) (g : Nat) (cs : Array Value) : Upd W (W.setRow g cs) (fun k => k = g) :=
 ⟨rfl, rfl, rfl, by simp [World.setRow], fun k _ hn => setRow_other W g k cs (fun e => hn (by omega))⟩
theorem U0 {W : World} {g : Nat} {cs : List Value} {t : TypeId} (h : W.heap[g]? = some (.cells cs.toArray t (0, 0))) (cs' : List Value) : (W.setRow g cs'.toArray).heap[g]? = some (.cells cs'.toArray t (0, 0)) := setRow_heap W g cs.toArray cs'.toArray t (0, 0) h
theorem Sep.setRow {b W : World} {pre post : List Res} {g : Nat} {cs : List Value} {t : TypeId} (H : Sep b W (pre ++ box g cs t :: post)) (cs' : List Value) : Sep b (W.setRow g cs'.toArray) (pre ++ box g cs' t :: post) :=
 H.upd (r' := box g cs' t) (UZ W g _) (U0 (H.all (box g cs t) (by simp)) cs') (fun k hk => .inl hk)
theorem qbk {W : World} {g : Nat} {xs : List Int} {t : TypeId} {k : IntKind} (h : W.heap[g]? = some (.cells (nums k xs).toArray t (0, 0))) (hx : xs.length ≤ 9223372036854775807) : (Kd.int k).C W (some ⟨g, 0, none⟩) xs.length xs := by
 refine ⟨rfl, hx, fun _ => ⟨_, rfl, fun j p hj => ⟨[.int k p], rfl, rfl, fun i u hu => ?_⟩⟩⟩
 have hi : i = 0 := by
  have := (List.getElem?_eq_some_iff.1 hu).1
  simpa using this
 subst hi
 simp only [List.getElem?_cons_zero, Option.some.injEq] at hu
 subst hu
 show W.cell? ((⟨g, 0, none⟩ : Addr).add (j * 1 + 0)) = _
 rw [add_plain, aH h]
 simp [nums, hj]
section
variable {P : Program} {ops : Array Oper} {rest : List Oper} {o : Oper} {a : Act} {Q : Exit → Act → World → Prop} {b W : World} {rs : List Res}
theorem qbl (hgd : o.guard = none) {t e : TypeId} {x y : Operand} (ho : o.op = .makeSlice t x y) (z : Value) (bytes : Nat) (ht : P.underlying t = some (.slice e)) (hinfo : (P.info? e).map (fun i => (i.zero, i.size, i.bytes)) = some (some z, 1, bytes)) (hz : z.cells = #[z]) (hb0 : 0 < bytes)
  (n : Nat) (hx : a.eval x = .int .i64 (n : Int)) (hy : a.eval y = .int .i64 (n : Int)) (hn : n * bytes ≤ 281474976710656) (H : aC (Sep b W rs))
  (h : ∀ g W', aC (Sep b W' (box g (List.replicate n z) e :: rs)) → wpList P ops Q rest (a.put o.dst (.slice (some ⟨g, 0, none⟩) n n)) W') : wpList P ops Q (o :: rest) a W := by
 have hrun := JH (P := P) t e z bytes ht hinfo hz hb0 (n : Int) (by omega) (by simpa using hn) W
 have hl : madeCells #[z] n = (List.replicate n z).toArray := by
  apply Array.ext'
  apply List.ext_getElem
  ·simp [madeCells]
  ·intro i h1 h2
   simp [madeCells, Nat.mod_one]
 refine wpList_plain hgd fun K hK => ?_
 unfold Oper.wp
 simp only [execOp, ho, hx, hy, Sem.run_bind, hrun, Result.andThen_ok, Sem.run_pure, Int.toNat_natCast]
 rw [hl]
 exact hK _ _ (h _ _ ⟨H.out.alloc _ e⟩)
theorem Q8 (pre post : List Res) (hgd : o.guard = none) (d s : Operand) (dT sT : TypeId) (ho : o.op = .call { callee := .builtin .copy, args := #[d, s], argTypes := #[dT, sT] }) (elem : TypeId) (hu : P.underlying dT = some (.slice elem)) (hsz : (P.info? elem).map (·.size) = some 1)
  (g off dLen dCap : Nat) (ad : Addr) (sLen sCap : Nat) (hd : a.eval d = .slice (some ⟨g, off, none⟩) dLen dCap) (hs : a.eval s = .slice (some ad) sLen sCap)
  (cur : List Value) (t : TypeId) (cs : List Value) (H : aC (Sep b W (pre ++ box g cur t :: post))) (hn : cs.length = Nat.min sLen dLen)
  (hsrc : ∀ j v, cs[j]? = some v → W.cell? (ad.add j) = some v) (hfit : off + cs.length ≤ cur.length) (h1 : ∀ v ∈ cs, v.oneCell' = true)
  (h : ∀ W', aC (Sep b W' (pre ++ box g (cur.take off ++ (cs ++ cur.drop (off + cs.length))) t :: post)) → wpList P ops Q rest (a.put o.dst (goInt cs.length)) W') : wpList P ops Q (o :: rest) a W :=
 wpList_copy_own hgd d s dT sT ho elem hu hsz g off dLen dCap ad sLen sCap hd hs cur.toArray t (H.out.all (box g cur t) (by simp)) cs hn hsrc (by simpa using hfit) h1 (h _ ⟨H.out.setRow _⟩)
theorem Z5 (pre post : List Res) (hgd : o.guard = none) (d s : Operand) (dT sT : TypeId) (ho : o.op = .call { callee := .builtin .copy, args := #[d, s], argTypes := #[dT, sT] }) (elem : TypeId) (hu : P.underlying dT = some (.slice elem)) (hsz : (P.info? elem).map (·.size) = some 1)
  (g off dLen dCap : Nat) (x : ByteArray) (hd : a.eval d = .slice (some ⟨g, off, none⟩) dLen dCap) (hs : a.eval s = .string x)
  (cur : List Value) (t : TypeId) (H : aC (Sep b W (pre ++ box g cur t :: post))) (hle : x.size ≤ dLen) (hfit : off + x.size ≤ cur.length)
  (h : ∀ W', aC (Sep b W' (pre ++ box g (cur.take off ++ (Lib.byteCells x.data.toList ++ cur.drop (off + x.size))) t :: post)) → wpList P ops Q rest (a.put o.dst (goInt x.size)) W') : wpList P ops Q (o :: rest) a W := by
 refine wpList_plain hgd fun K hK => ?_
 have hrun := Lib.run_copy_row_string (P := P) W dT sT o.type elem g off dLen dCap x cur.toArray t hu hsz (H.out.all (box g cur t) (by simp)) hle (by simpa using hfit)
 unfold Oper.wp
 simp [execOp, ho, resolve, invoke, builtin, hd, hs, hrun, Result.andThen]
 exact hK _ _ (h _ ⟨by have := H.out.setRow (cur.take off ++ (Lib.byteCells x.data.toList ++ cur.drop (off + x.size))); simpa using this⟩)
end
end Go.Proofs.Sp
namespace Go.Proofs.Sp
open Go.RowKit Go.Proofs.aA.aK Go.Proofs.aA.aW Go.Proofs.aA.aZ
theorem U1 (W : World) (r : Nat) (o : Obj) : Upd W (W.putObj r o) (fun k => k = r) :=
 ⟨rfl, rfl, rfl, by simp, fun k _ hn => World.putObj_heap_other hn⟩
theorem Sep.putObj {b W : World} {pre post : List Res} {r : Nat} {o : Obj} (H : Sep b W (pre ++ thing r o :: post)) (o' : Obj) : Sep b (W.putObj r o') (pre ++ thing r o' :: post) := by
 have h : W.heap[r]? = some o := H.all (thing r o) (by simp)
 exact H.upd (r' := thing r o') (U1 W r o') (World.putObj_heap_same (gQ h)) (fun k hk => .inl hk)
theorem Sep.EX {b W : World} {rs : List Res} {r : Nat} {o : Obj} (H : Sep b W rs) (hm : thing r o ∈ rs) : W.heap[r]? = some o := H.all _ hm
theorem Sep.JW {b W : World} {rs : List Res} (H : Sep b W rs) (o : Obj) : Sep b (W.alloc o) (thing W.heap.size o :: rs) :=
 H.push (aU (Below.refl _ _) _) _ (kK W _) (fun g hg => by rw [show g = W.heap.size from hg]; exact Nat.le_refl _)
def U2 {α : Type} (P : Program) (b : World) (gf : Nat) (lb : Array Value) (encs : α → Array Value) (xs : List α) (own : List α → List Res) : Prop :=
 ∀ (l : Nat) (T : List α → List Res → Prop) (W : World),
  (∀ pre x post, xs = pre ++ x :: post → ∀ W1 ts, T pre ts → aC (Sep b W1 (own pre ++ ts)) → YieldAt Fence.wide 0 P l (encs x) W1 fun e W' => e = .returned (.bool true) ∧ ∃ ts', T (pre ++ [x]) ts' ∧ aC (Sep b W' (own pre ++ ts'))) →
  (∃ ts, T [] ts ∧ aC (Sep b W (own [] ++ ts))) →
  CallsIn Fence.wide 0 P gf (#[.func (.yield l) #[] #[]] ++ lb) W fun e W' => (∃ v, e = .returned v) ∧ ∃ ts, T xs ts ∧ aC (Sep b W' (own xs ++ ts))
theorem qbm {α : Type} (a b c : List α) : (a ++ (b ++ c)).Perm (b ++ (a ++ c)) := by
 rw [← List.append_assoc, ← List.append_assoc]
 exact List.Perm.append_right c List.perm_append_comm
theorem MO {α : Type} {P : Program} {g : Operand} {ps : Array Tmp} {assign body : Code} {Q : Exit → Act → World → Prop} {a : Act} {b w : World} {gf : Nat} {lb : Array Value}
    (encs : α → Array Value) (xs : List α) (own : List α → List Res) (R : List α → List Res → Prop) (M : List α → α → Act → List Res → Prop) (rs0 : List Res)
    (hg : a.eval g = .func (.func gf) #[] lb) (eg : ∀ args w, (callFunc gf args).run P w = .ok (.enter gf args) w) (hps : ∀ x, (encs x).size = ps.size)
    (hi : U2 P b gf lb encs xs own) (hR0 : R [] rs0) (H : aC (Sep b w (own [] ++ rs0)))
    (hassign : ∀ (l : Nat) (S : List Res) (pre : List α) (x : α) (post : List α) (W1 : World) (rs : List Res) (K : Act → World → Prop), xs = pre ++ x :: post → R pre rs → aC (Sep b W1 (rs ++ S)) →
      (∀ a1 W2 ms, M pre x a1 ms → aC (Sep b W2 (ms ++ S)) → K a1 W2) →
      assign.wpIn (Fence.wide.inRound l) 0 P (Exit.then K (fun _ _ _ => False)) { tmps := (ps.zip (encs x)).foldl (fun t (p, v) => t.setIfInBounds p v) a.tmps, defers := [] } W1)
    (hbody : ∀ (l : Nat) (S : List Res) (pre : List α) (x : α) (post : List α) (a1 : Act) (W2 : World) (ms : List Res), xs = pre ++ x :: post → M pre x a1 ms → aC (Sep b W2 (ms ++ S)) →
      body.wpIn (Fence.wide.inRound l) 0 P (Exit.then (fun _ W3 => ∃ rs, R (pre ++ [x]) rs ∧ aC (Sep b W3 (rs ++ S))) (fun _ _ _ => False)) a1 W2)
    (hdone : ∀ (D : Nat) (W2 : World) (rs : List Res), R xs rs → aC (Sep b W2 (rs ++ (own xs ++ [thing D (.deferred (some []))]))) → Q .normal { a with defers := { target := .collected D, args := #[] } :: a.defers } W2) :
    (Code.rangeFunc g ps assign body).wp P Q a w := by
  refine wpIn_wide (n := 0).1 (wpIn_rangeFunc ?_)
  intro fn hfn
  obtain ⟨rec, hrec⟩ : ∃ rec : LoopState → Loop, rec = fun st => { state := st, pending := none, fn, tmps := a.tmps, params := ps, assign, body, defers := w.heap.size } := ⟨_, rfl⟩
  obtain ⟨W1, hW1⟩ : ∃ W1, (w.alloc (.deferred (some []))).alloc (.loop (rec .ready)) = W1 := ⟨_, rfl⟩
  have H1 : Sep b W1 (thing (w.heap.size + 1) (.loop (rec .ready)) :: thing w.heap.size (.deferred (some [])) :: (own [] ++ rs0)) := by
    rw [← hW1]
    have := (H.out.JW (.deferred (some []))).JW (.loop (rec .ready))
    rwa [World.size_alloc] at this
  obtain ⟨l, hl⟩ : ∃ l, l = w.heap.size + 1 := ⟨_, rfl⟩
  obtain ⟨D, hD⟩ : ∃ D, D = w.heap.size := ⟨_, rfl⟩
  refine ⟨w.heap.size + 1, [{ target := .collected w.heap.size, args := #[] }], W1, { target := .fn (.func gf) lb, args := #[.func (.yield (w.heap.size + 1)) #[] #[]] }, W1, gf,
    #[.func (.yield (w.heap.size + 1)) #[] #[]] ++ lb, W1, ?_, ?_, ?_, ?_, (fun h => by cases h), ?_⟩
  · rw [← hW1, hrec]; exact run_enterLoop_outer _ _ _ _ _
  · simp only [resolve, hg]
    simp [go_sem]
  · intro f' _; trivial
  · simp [invoke, go_sem, eg]
  · rw [← hl, ← hD] at H1 ⊢
    refine (hi l (fun pre ts => ∃ rs, R pre rs ∧ ts = rs ++ [thing l (.loop (rec .ready)), thing D (.deferred (some []))]) W1 ?_ ⟨_, ⟨rs0, hR0, rfl⟩, ⟨H1.perm ?_⟩⟩).mono ?_
    · rintro pre x post hx W2 ts ⟨rs, hR, rfl⟩ H2
      have H3 : Sep b W2 ((own pre ++ rs) ++ thing l (.loop (rec .ready)) :: [thing D (.deferred (some []))]) := by
        have := H2.out
        rwa [← List.append_assoc] at this
      have hlp := H3.EX (r := l) (o := .loop (rec .ready)) (by simp)
      have hy := run_yield (P := P) (args := encs x) hlp (by rw [hrec]; exact hps x)
      rw [hrec] at hy
      refine ⟨fn, _, assign, body, hy, roundIn_of_wpIn hfn ?_⟩
      refine hassign l (own pre ++ [thing l (.loop (rec .ready)), thing D (.deferred (some []))]) pre x post W2 rs _ hx hR ⟨H2.out.perm (qbm _ _ _)⟩ ?_
      intro a1 W3 ms hM H4
      have H5 : Sep b W3 ((ms ++ own pre) ++ thing l (.loop (rec .ready)) :: [thing D (.deferred (some []))]) := by
        have := H4.out
        rwa [← List.append_assoc] at this
      have hl3 := H5.EX (r := l) (o := .loop (rec .ready)) (by simp)
      refine ⟨_, run_beginRound hl3 (by rw [hrec]), ?_⟩
      have H6 := H5.putObj (.loop { rec .ready with state := .busy })
      rw [List.append_assoc] at H6
      refine wpIn_mono (hbody l (own pre ++ thing l (.loop { rec .ready with state := .busy }) :: [thing D (.deferred (some []))]) pre x post a1 _ ms hx hM ⟨H6⟩) ?_
      rintro e a3 W4 hp
      cases e with
      | normal =>
        obtain ⟨rs', hR', Hp⟩ := (show ∃ rs', R (pre ++ [x]) rs' ∧ aC (Sep b W4 (rs' ++ (own pre ++ thing l (.loop { rec .ready with state := .busy }) :: [thing D (.deferred (some []))]))) from hp)
        have H7 : Sep b W4 ((rs' ++ own pre) ++ thing l (.loop { rec .ready with state := .busy }) :: [thing D (.deferred (some []))]) := by
          have := Hp.out
          rwa [← List.append_assoc] at this
        have hl4 := H7.EX (r := l) (o := .loop { rec .ready with state := .busy }) (by simp)
        have hend := run_endRound (P := P) none hl4
        refine ⟨_, _, hend, rfl, _, ⟨rs', hR', rfl⟩, ⟨?_⟩⟩
        have H8 := H7.putObj (.loop (rec .ready))
        have e1 : (Obj.loop { ({ rec .ready with state := .busy } : Loop) with state := if (none : Option Code).isNone then .ready else .done, pending := none }) = .loop (rec .ready) := by rw [hrec]; rfl
        rw [e1]
        rw [List.append_assoc] at H8
        exact H8.perm (qbm _ _ _)
      | ret => exact hp.elim
      | exit id => exact hp.elim
      | goto t => exact hp.elim
      | panic ch => exact hp.elim
      | outgrown => exact hp.elim
    · have hp := List.perm_append_comm (l₁ := [thing l (.loop (rec .ready)), thing D (.deferred (some []))]) (l₂ := own [] ++ rs0)
      rw [List.append_assoc] at hp
      exact hp
    · rintro e W2 ⟨⟨v, rfl⟩, ts, ⟨rs, hR, rfl⟩, H2⟩
      have H3 : Sep b W2 ((own xs ++ rs) ++ thing l (.loop (rec .ready)) :: [thing D (.deferred (some []))]) := by
        have := H2.out
        rwa [← List.append_assoc] at this
      have hl3 := H3.EX (r := l) (o := .loop (rec .ready)) (by simp)
      have hend := run_endLoop (P := P) hl3 (by rw [hrec]; simp)
      rw [show (rec .ready).pending = none by rw [hrec]] at hend
      refine ⟨none, _, hend, hdone D _ rs hR ⟨?_⟩⟩
      refine Sep.perm ?_ (qbm (own xs) rs _)
      rw [← List.append_assoc]
      exact (H3.putObj _).drop
def marks (ds : List Nat) : List Res := ds.map fun D => thing D (.deferred (some []))
def U3 (D : Nat) : Deferred := { target := .collected D, args := #[] }
theorem DL {P : Program} {fn : Func} {tmps : Array Value} {R : Ending → World → Prop} {b : World} {rs : List Res} : ∀ (ds : List Nat) (w : World), aC (Sep b w (rs ++ marks ds)) →
  (∀ w', aC (Sep b w' rs) → ∃ v, (results fn tmps).run P w' = .ok v w' ∧ R (.returned v) w') → LeavesInM Fence.wide 0 P fn tmps R (ds.map U3) .returning w
 | [], w, H, hR => hR w ⟨by have := H.out; simpa [marks] using this⟩
 | D :: ds, w, H, hR => by
  have hD := H.out.EX (r := D) (o := .deferred (some [])) (by simp [marks])
  refine ⟨by simp, .inl ⟨D, _, rfl, run_takeDeferred hD, DL ds _ ⟨?_⟩ hR⟩⟩
  exact ((show Sep b w (rs ++ thing D (.deferred (some [])) :: marks ds) from H.out).putObj (.deferred none)).drop
section
variable {F : Fence} {n : Nat} {P : Program} {ops : Array Oper} {rest : List Oper} {o : Oper} {a : Act} {Q : Exit → Act → World → Prop} {b W : World} {rs : List Res}
theorem GV {W W1 : World} {v : Value} (hgd : o.guard = none) (hab : o.about P W a.eval = none) (hdf : ∀ c, o.op ≠ .defer c) (hrun : (execOp a.eval o).run P W = .ok (.value v) W1)
  (h : wpListIn F n P ops Q rest (a.put o.dst v) W1) : wpListIn F n P ops Q (o :: rest) a W := by
 refine wpListIn_plain hgd fun K hK => ?_
 refine ⟨fun f hf => (by rw [hab] at hf; cases hf), ?_⟩
 rw [Oper.semAt_eq _ _ _ hdf, hrun]
 exact hK _ _ h
theorem Q9 {W W1 : World} (hgd : o.guard = none) (hab : o.about P W a.eval = none) (hdf : ∀ c, o.op ≠ .defer c) (hN : o.dst = none) (hrun : (execOp a.eval o).run P W = .ok .skip W1)
  (h : wpListIn F n P ops Q rest a W1) : wpListIn F n P ops Q (o :: rest) a W := by
 refine wpListIn_plain hgd fun K hK => ?_
 refine ⟨fun f hf => (by rw [hab] at hf; cases hf), ?_⟩
 rw [Oper.semAt_eq _ _ _ hdf, hrun]
 show K (a.put o.dst undef) W1
 rw [hN]
 exact hK _ _ h
theorem U4 {N : Tmp} (_hd : o.dst = some N) (h : wpListIn F n P ops Q (o :: rest) a W) : wpListIn F n P ops Q (o :: rest) a W := h
theorem sG {t : TypeId} {q : Tmp} {v : Operand} (_ho : o.op = .store t (.tmp q) v) (h : wpListIn F n P ops Q (o :: rest) a W) : wpListIn F n P ops Q (o :: rest) a W := h
theorem JX {bf : Builtin} {xs : Array Operand} {ts : Array TypeId} (_ho : o.op = .call { callee := .builtin bf, args := xs, argTypes := ts }) (h : wpListIn F n P ops Q (o :: rest) a W) : wpListIn F n P ops Q (o :: rest) a W := h
theorem Z7 (hgd : o.guard = none) (hab : o.about P W a.eval = none) (hdf : ∀ c, o.op ≠ .defer c) (H : aC (Sep b W rs)) {cs : List Value} {t : TypeId}
  (hrun : (execOp a.eval o).run P W = .ok (.value (.pointer (some ⟨W.heap.size, 0, none⟩))) (W.alloc (.cells cs.toArray t (0, 0))))
  (h : ∀ g W', aC (Sep b W' (box g cs t :: rs)) → wpListIn F n P ops Q rest (a.put o.dst (.pointer (some ⟨g, 0, none⟩))) W') : wpListIn F n P ops Q (o :: rest) a W :=
 GV hgd hab hdf hrun (h _ _ ⟨H.out.alloc cs t⟩)
theorem yX {W1 : World} {rs1 : List Res} (hgd : o.guard = none) {t : TypeId} {q : Tmp} {v : Operand} (ho : o.op = .store t (.tmp q) v) (hab : o.about P W a.eval = none) (hN : o.dst = none) (hrun : (execOp a.eval o).run P W = .ok .skip W1) (H1 : Sep b W1 rs1)
  (h : ∀ W', aC (Sep b W' rs1) → wpListIn F n P ops Q rest a W') : wpListIn F n P ops Q (o :: rest) a W :=
 Q9 hgd hab (fun c e => by rw [ho] at e; cases e) hN hrun (h _ ⟨H1⟩)
theorem RD {s x : Operand} {t : TypeId} (ho : o.op = .call { callee := .builtin .append, args := #[s, x], argTypes := #[t, t] }) :
  ∃ S : Sem Value, (execOp a.eval o).run P W = (S.run P W).andThen fun v w => .ok (.value v) w := by
 refine ⟨?S, ?_⟩
 rotate_left
 ·simp [execOp, ho, resolve, invoke, builtin]
  rfl
theorem Z8 {α : Type} (d : Kd α) (hd : Flat d) (pre post : List Res) (hgd : o.guard = none) (s x : Operand) (t e : TypeId) (z : Value) (bytes : Nat)
  (ho : o.op = .call { callee := .builtin .append, args := #[s, x], argTypes := #[t, t] })
  (ht : P.underlying t = some (.slice e)) (hinfo : (P.info? e).map (fun i => (i.zero, i.size, i.bytes)) = some (some z, d.sz, bytes)) (hz : z.cells.size = d.sz) (hs0 : 0 < d.sz) (hb0 : 0 < bytes)
  (v : Value) (xs : List α) (p : α) (cs : List Value) (hs : a.eval s = v) (hx : a.eval x = .slice (some ⟨W.heap.size, 0, none⟩) 1 1) (hp : d.M W 0 (fun _ => False) p cs)
  (hab : o.about P (W.alloc (.cells cs.toArray e)) a.eval = none)
  (H : aC (Sep b W (pre ++ row d e v xs :: post))) (hl : (xs.length + 1) * bytes ≤ 140737488355328)
  (h : ∀ A1 c1 W', aC (Sep b W' (pre ++ row d e (.slice A1 (xs ++ [p]).length c1) (xs ++ [p]) :: post)) → wpListIn F n P ops Q rest (a.put o.dst (.slice A1 (xs ++ [p]).length c1)) W') :
  wpListIn F n P ops Q (o :: rest) a (W.alloc (.cells cs.toArray e)) := by
 have hpl := I9 (P := P) (ops := ops) (rest := []) (o := o) (a := a) (Q := fun ex a' w' => ex = Exit.normal ∧ ∃ A1 c1, a' = a.put o.dst (.slice A1 (xs ++ [p]).length c1) ∧ aC (Sep b w' (pre ++ row d e (.slice A1 (xs ++ [p]).length c1) (xs ++ [p]) :: post)))
  d hd pre post hgd s x t e z bytes ho ht hinfo hz hs0 hb0 v xs p cs hs hx hp H hl (fun A1 c1 W' HS => ⟨rfl, A1, c1, rfl, HS⟩)
 obtain ⟨S, hS⟩ := RD (P := P) (a := a) (W := W.alloc (.cells cs.toArray e)) ho
 simp only [wpList, Region.wanted, hgd, if_true] at hpl
 rcases hpl with hpl | ⟨_, a1, w1, h1, _⟩
 ·unfold Oper.wp at hpl
  rw [hS] at hpl
  cases hr : S.run P (W.alloc (.cells cs.toArray e)) with
  | ok u w1 =>
   rw [hr] at hpl hS
   obtain ⟨_, A1, c1, he, HS⟩ := (show (True ∧ ∃ A1 c1, a.put o.dst u = a.put o.dst (.slice A1 (xs ++ [p]).length c1) ∧ aC (Sep b w1 (pre ++ row d e (.slice A1 (xs ++ [p]).length c1) (xs ++ [p]) :: post))) from hpl)
   refine GV hgd hab (fun c e => by rw [ho] at e; cases e) hS ?_
   rw [he]
   exact h A1 c1 w1 HS
  | halt x w1 =>
   rw [hr] at hpl
   exfalso
   cases x <;> first | exact hpl.elim | exact absurd hpl.1 (by simp) | simp [Result.andThen, Oper.upon] at hpl
 ·cases h1
end
theorem U5 {F : Fence} {n : Nat} {P : Program} {ops : Array Oper} {rest : List Oper} {o : Oper} {a : Act} {Q : Exit → Act → World → Prop} {b W : World} {α : Type} {r0 r1 r2 r3 : Res} {post : List Res} (d : Kd α) (hd : Flat d) (hgd : o.guard = none) (s x : Operand) (t e : TypeId) (z : Value) (bytes : Nat)
 (ho : o.op = .call { callee := .builtin .append, args := #[s, x], argTypes := #[t, t] })
 (ht : P.underlying t = some (.slice e)) (hinfo : (P.info? e).map (fun i => (i.zero, i.size, i.bytes)) = some (some z, d.sz, bytes)) (hz : z.cells.size = d.sz) (hs0 : 0 < d.sz) (hb0 : 0 < bytes)
 (v : Value) (xs : List α) (p : α) (cs : List Value) (hs : a.eval s = v) (hx : a.eval x = .slice (some ⟨W.heap.size, 0, none⟩) 1 1) (hp : d.M W 0 (fun _ => False) p cs)
 (hab : o.about P (W.alloc (.cells cs.toArray e)) a.eval = none)
 (H : aC (Sep b W (r0 :: r1 :: r2 :: r3 :: row d e v xs :: post))) (hl : (xs.length + 1) * bytes ≤ 140737488355328)
 (h : ∀ A1 c1 W', aC (Sep b W' (r0 :: r1 :: r2 :: r3 :: row d e (.slice A1 (xs ++ [p]).length c1) (xs ++ [p]) :: post)) → wpListIn F n P ops Q rest (a.put o.dst (.slice A1 (xs ++ [p]).length c1)) W') :
 wpListIn F n P ops Q (o :: rest) a (W.alloc (.cells cs.toArray e)) := Z8 d hd [r0, r1, r2, r3] post hgd s x t e z bytes ho ht hinfo hz hs0 hb0 v xs p cs hs hx hp hab H hl h
end Go.Proofs.Sp
namespace Go.Proofs.Sp
open Go.RowKit Go.Proofs.aA.aK Go.Proofs.aA.aW Go.Proofs.aA.aZ
section
variable {P : Program} {ops : Array Oper} {oi : Oper} {a : Act} {Q : Exit → Act → World → Prop} {K : Act → World → Prop} {b W : World} {rs : List Res}
theorem RF {N : Option Tmp} (hw : Region.wanted oi (yielded ops a.tmps) = true) (hN : oi.dst = N) (H : Sep b W rs) (cs : List Value) (e : TypeId) (n : Nat)
  (hrun : (execOp a.eval oi).run P W = .ok (.value (.slice (some ⟨W.heap.size, 0, none⟩) n n)) (W.alloc (.cells cs.toArray e (0, 0))))
  (h : ∀ g W', Sep b W' (box g cs e :: rs) → K (a.put N (.slice (some ⟨g, 0, none⟩) n n)) W') : if Region.wanted oi (yielded ops a.tmps) = true then Oper.wp P oi a W K Q else K (a.put N undef) W :=
 JL hw hN hrun (h _ _ (H.alloc cs e))
theorem xK {N : Option Tmp} (hw : Region.wanted oi (yielded ops a.tmps) = true) (hN : oi.dst = N) (H : Sep b W rs) (cs : List Value) (e : TypeId)
  (hrun : (execOp a.eval oi).run P W = .ok (.value (.pointer (some ⟨W.heap.size, 0, none⟩))) (W.alloc (.cells cs.toArray e (0, 0))))
  (h : ∀ g W', Sep b W' (box g cs e :: rs) → K (a.put N (.pointer (some ⟨g, 0, none⟩))) W') : if Region.wanted oi (yielded ops a.tmps) = true then Oper.wp P oi a W K Q else K (a.put N undef) W :=
 JL hw hN hrun (h _ _ (H.alloc cs e))
theorem zN {α : Type} (d : Kd α) (hd : Flat d) (hw : Region.wanted oi (yielded ops a.tmps) = true) (s x : Operand) (t e : TypeId) (z : Value) (bytes : Nat)
  (ho : oi.op = .call { callee := .builtin .append, args := #[s, x], argTypes := #[t, t] })
  (ht : P.underlying t = some (.slice e)) (hinfo : (P.info? e).map (fun i => (i.zero, i.size, i.bytes)) = some (some z, d.sz, bytes)) (hz : z.cells.size = d.sz) (hs0 : 0 < d.sz) (hb0 : 0 < bytes)
  (v : Value) (xs ys : List α) (A : Option Addr) (c : Nat) (hs : a.eval s = v) (hx : a.eval x = .slice A ys.length c)
  (HR : d.C W A ys.length ys) (hKM : ∀ x cs, d.K W x cs → d.M W 0 (fun _ => False) x cs) (H : Sep b W (row d e v xs :: rs)) (hl : (xs.length + ys.length) * bytes ≤ 140737488355328)
  (h : ∀ A1 c1 W', Sep b W' (row d e (.slice A1 (xs ++ ys).length c1) (xs ++ ys) :: rs) → K (a.put oi.dst (.slice A1 (xs ++ ys).length c1)) W') :
  if Region.wanted oi (yielded ops a.tmps) = true then Oper.wp P oi a W K Q else K (a.put oi.dst undef) W := by
 have hr : d.R e W 0 (fun k => v.ownBlock = some k) v xs := H.all (row d e v xs) (by simp)
 refine Kd.kU d (w0 := W) 0 hw s x t e z bytes ho ht hinfo hz hs0 hb0 v xs ys A ys.length c (fun k => v.ownBlock = some k ∨ W.heap.size ≤ k) (fun _ => False) hs hx
  (Kd.rJ hr (fun k hk => .inl hk)) HR hKM (fun _ hk => hk.elim) (fun k hk => .inr hk) (Below.refl _ _) (Nat.zero_le _) hl ?_
 intro v1 w1 ho1 _ hg hat
 obtain ⟨A1, c1, rfl⟩ := Kd.dW ho1
 refine h A1 c1 w1 (H.qcA (r' := row d e (.slice A1 (xs ++ ys).length c1) (xs ++ ys)) (Upd.sU hg) (Kd.JQ hd ho1 (fun k hk _ => hk)) (fun k hk => ?_))
 have hk' : (Value.slice A1 (xs ++ ys).length c1).ownBlock = some k := hk
 rcases hat with e1 | ⟨b1, e1, hb1⟩
 ·exact .inl (show v.ownBlock = some k by rw [← e1]; exact hk')
 ·rw [e1] at hk'
  injection hk' with hk'
  exact .inr (by omega)
theorem XC {rest : List Oper} (hgd : oi.guard = none) (H : aC (Sep b W rs)) (cs : List Value) (e : TypeId) (n : Nat)
  (hrun : (execOp a.eval oi).run P W = .ok (.value (.slice (some ⟨W.heap.size, 0, none⟩) n n)) (W.alloc (.cells cs.toArray e (0, 0))))
  (h : ∀ g W', aC (Sep b W' (box g cs e :: rs)) → wpList P ops Q rest (a.put oi.dst (.slice (some ⟨g, 0, none⟩) n n)) W') : wpList P ops Q (oi :: rest) a W :=
 Kd.vG hgd hrun (h _ _ ⟨H.out.alloc cs e⟩)
theorem qcC {α : Type} {d : Kd α} {e : TypeId} {g : Nat} {cs : List Value} {l : List α} (hr : fP (d.M W 0 (fun k => (k = g) ∧ some k ≠ (Value.slice (some ⟨g, 0, none⟩) l.length l.length).ownBlock)) d.sz l cs) (hlen : l.length ≤ 1000000) (H : Sep b W (box g cs e :: rs)) : Sep b W (row d e (.slice (some ⟨g, 0, none⟩) l.length l.length) l :: rs) := by
 have hb : W.heap[g]? = some (.cells cs.toArray e (0, 0)) := H.lD (g := g) aQ
 refine H.qcA (r' := row d e (.slice (some ⟨g, 0, none⟩) l.length l.length) l) (Upd.refl _ _) ?_ (fun k hk => .inl ?_)
 ·refine ⟨fun k hk => hk, cs, ⟨hr.1, .inr ⟨g, l.length, cs.toArray, rfl, Nat.zero_le _, hb, Nat.le_refl _, by unfold maxLen; omega, by simpa using hr.1, ?_⟩⟩, hr.vF (fun p c hp => d.jJ (fun k hk => ⟨by rw [hk.1]; rfl, hk.2⟩) hp)⟩
  rw [← hr.1]
  simp
 ·have : some g = some k := hk
  injection this with this
  exact this.symm
end
end Go.Proofs.Sp
namespace Go.Proofs.U
open Go.RowKit Go.Proofs.aA.aK Go.Proofs.aA.aW Go.Proofs.aA.aZ
def qd9 (c : Int) : Int := bits .xor .u32 (c / 2) (bits .and .u32 3988292384 (-bits .and .u32 c 1 % 4294967296))
def Z9 (c : Int) : Nat → Int
 | 0 => c
 | n + 1 => qd9 (Z9 c n)
def XD (s : ByteArray) (c : Int) : Nat → Int
 | 0 => c
 | n + 1 => Z9 (bits .xor .u32 (XD s c n) (bt s (n : Int))) 8
def qbn (c : Int) (s : ByteArray) : Int := XD s c s.size
theorem qaa (c : Int) (n : Nat) : bits .xor .u32 (Z9 c n / 2) (bits .and .u32 3988292384 (-bits .and .u32 (Z9 c n) 1 % 4294967296)) = Z9 c (n + 1) := rfl
set_option maxHeartbeats 1600000 in
theorem XE (c : Int) (s : ByteArray) (w : World) (hs : s.size ≤ 9223372036854775807) :
  Calls Tryz.prog 122 #[.int .u32 c, .string s] w fun e w' => e = .returned (.int .u32 (qbn c s)) ∧ Below w.heap.size w w' := by
 have kb := fun W => F8 (P := Tryz.prog) 9 147 5 Tryz.underlying9 Tryz.underlying147 Tryz.underlying5 s W
 go_enter Tryz.func122, Tryz.ntmps122
 go_wp2
 have HR := aC.mk (F9 w 5 s (by omega))
 have HB := aC.mk (GH (Below.refl w.heap.size w) (Nat.le_refl _) 5 s)
 go_loopw [0, 10] (fun v0 v10 wr => ∃ (i : Nat), v0 = .int .u32 (XD s c i) ∧ v10 = .int .i64 (i : Int) ∧ i ≤ s.size ∧ aC (jD wr .u8 (some ⟨w.heap.size, 0, none⟩) s.size (bytesOf s)) ∧ aC (Below w.heap.size w wr))
  (fun _ v10 _ => s.size - (intOf v10).toNat)
 case atStart => exact ⟨0, rfl, rfl, by omega, HR, HB⟩
 case round =>
  clear HR HB
  obtain ⟨i, rfl, rfl, hi, HR, HB⟩ := hrel
  by_cases hlt : i < s.size
  ·obtain ⟨ad, he, hc⟩ := HR.out.at_ (i : Int) (by omega) (by omega)
   injection he with he
   subst he
   rw [add_plain] at hc
   simp only [Int.toNat_natCast, zV] at hc
   have hbr := vC s (i : Int)
   have h0 : (0 : Int) ≤ (i : Int) := by omega
   have h1 : (i : Int) < (s.size : Int) := by omega
   go_wp2
   go_loop [0, 18] (fun v0 v18 => ∃ (j : Nat), v0 = .int .u32 (Z9 (bits .xor .u32 (XD s c i) (bt s (i : Int))) j) ∧ v18 = .int .i64 (j : Int) ∧ j ≤ 8) (fun _ v18 => 8 - (intOf v18).toNat)
   case atStart => exact ⟨0, rfl, rfl, by omega⟩
   case round =>
    obtain ⟨j, rfl, rfl, hj⟩ := hrel
    by_cases hl2 : j < 8
    ·go_wp2
     exact ⟨⟨j + 1, by rw [qaa], by congr 1, by omega⟩, by simp [intOf]; omega⟩
    ·obtain rfl : j = 8 := by omega
     go_wp2
     exact ⟨⟨i + 1, rfl, by congr 1, by omega, HR, HB⟩, by simp [intOf]; omega⟩
  ·obtain rfl : i = s.size := by omega
   go_wp2
   go_ret
   exact ⟨rfl, HB.out⟩
end Go.Proofs.U
namespace Go.Proofs.U
open Go.RowKit Go.Proofs.aA.aK Go.Proofs.aA.aW Go.Proofs.aA.aZ Go.Proofs.Sp
def byteAt (n : Int) (i : Nat) : Int := n / 2 ^ (8 * i) % 256
def rQ (n : Int) (k : Nat) : List Int := (List.range k).map (byteAt n)
theorem MP (n : Int) (k : Nat) : rQ n (k + 1) = rQ n k ++ [byteAt n k] := by simp [rQ, List.range_succ]
set_option maxHeartbeats 1600000 in
theorem OG (b0 w : World) (rs : List Res) (v : Value) (xs : List Int) (n : Int) (many : Nat) (hm : many ≤ 8) (hn : 0 ≤ n) (hn2 : n < 18446744073709551616) (hx : xs.length ≤ 1000000)
  (H : aC (Sep b0 w (row (Kd.int .u8) 5 v xs :: rs))) :
  Calls Tryz.prog 121 #[v, .int .u64 n, .int .i64 (many : Int)] w fun e w' => ∃ A c, e = .returned (.slice A (xs ++ rQ n many).length c) ∧ aC (Sep b0 w' (row (Kd.int .u8) 5 (.slice A (xs ++ rQ n many).length c) (xs ++ rQ n many) :: rs)) := by
 obtain ⟨A0, c0, rfl⟩ := Kd.dW (H.out.qbh aQ)
 go_enter Tryz.func121, Tryz.ntmps121
 go_wp2
 go_loopw [0, 9] (fun v0 v9 wr => ∃ (i : Nat) (A : Option Addr) (c : Nat) (ys : List Int), v0 = .slice A ys.length c ∧ v9 = .int .i64 (i : Int) ∧ i ≤ many ∧ ys.length ≤ 1000008 ∧ aC (ys = xs ++ rQ n i) ∧ aC (Sep b0 wr (row (Kd.int .u8) 5 (.slice A ys.length c) ys :: rs)))
  (fun _ v9 _ => many - (intOf v9).toNat)
 case atStart => exact ⟨0, A0, c0, xs, rfl, rfl, by omega, by omega, ⟨by simp [rQ]⟩, H⟩
 case round =>
  clear H
  obtain ⟨i, A, c, ys, rfl, rfl, hi, hy, HY, H⟩ := hrel
  by_cases hlt : i < many
  ·have hy2 : ys.length < 1000008 := by rw [HY.out]; simp [rQ]; omega
   go_wp2_with (first
 |((with_reducible refine iF (b := .append) (xs := #[.tmp 12, .tmp 18]) rfl ?_); at_builtin;
   refine Q7 (Kd.int .u8) (QZ _) rfl (.tmp 12) (.tmp 18) 147 5 (.int .u8 0) 1 rfl Tryz.underlying147 info5 rfl (by decide) (by omega) _ ys (n / 2 ^ (8 * i) % 256) [.int .u8 (n / 2 ^ (8 * i) % 256)] rfl rfl ?hp H ?hl ?_;
   (case hp => rfl); (case hl => omega);
   intro A1 c1 w1 H1; clear H; have H := H1; clear H1;
   simp only [Act.put, zA, zZ, zS])
 |fail)
   refine ⟨⟨i + 1, A1, c1, _, rfl, by congr 1, by omega, ?_, ⟨by rw [HY.out, MP, List.append_assoc]; rfl⟩, H⟩, by simp [intOf]; omega⟩
   rw [List.length_append, List.length_singleton]
   omega
  ·obtain rfl : i = many := by omega
   go_wp2
   go_ret
   have e := HY.out
   subst e
   exact ⟨A, c, rfl, H⟩
def qbo (seq : Int) (d : ByteArray) : List Int := rQ (d.size : Int) 4 ++ rQ seq 8
def qea (seq : Int) (d : ByteArray) : Int := bits .xor .u32 IntKind.u32.max (qbn (qbn 4294967295 (strOfNums (qbo seq d))) d)
theorem qab {n : Int} (h0 : 0 ≤ n) (h1 : n ≤ 4294967295) : IntKind.u64.wrap n = n := by
 simp [IntKind.wrap, IntKind.signed, IntKind.bits]
 omega
theorem qac {W : World} {k : IntKind} {A : Option Addr} {n : Nat} {xs : List Int} (h : (Kd.int k).C W A n xs) (hn : 0 < n) : ∃ ad, A = some ad ∧ ∀ j v, (nums k xs)[j]? = some v → W.cell? (ad.add j) = some v := by
 obtain ⟨ad, e, hc⟩ := h.2.2 hn
 refine ⟨ad, e, fun j v hv => ?_⟩
 simp only [nums, List.getElem?_map, Option.map_eq_some_iff] at hv
 obtain ⟨p, hp, rfl⟩ := hv
 obtain ⟨cs, _, hk, hcell⟩ := hc j p hp
 have hk' : cs = [.int k p] := hk
 subst hk'
 have := hcell 0 _ rfl
 simpa [Kd.int, Kd.scalar] using this
theorem RG (op : BinOp) (x y : Int) : 0 ≤ bits op .u32 x y ∧ bits op .u32 x y ≤ 4294967295 := by
 have h := wf_bits op .u32 x y
 simp only [Lit.wf, Bool.and_eq_true, decide_eq_true_eq] at h
 exact ⟨h.1, h.2⟩
def qbp (seq : Int) (d : ByteArray) : List Int := qbo seq d ++ rQ (qea seq d) 4 ++ bytesOf d
def dN (seq : Int) (d : ByteArray) : ByteArray := strOfNums (qbp seq d)
theorem RH (d : ByteArray) : Lib.byteCells d.data.toList = nums .u8 (bytesOf d) := by simp [Lib.byteCells, nums, bytesOf]
set_option maxHeartbeats 1600000 in
theorem MQ (seq : Int) (d : ByteArray) (w : World) (hd : d.size ≤ 65536) (h0 : 0 ≤ seq) (h1 : seq < 18446744073709551616) :
  Calls Tryz.prog 78 #[.int .u64 seq, .string d] w fun e w' => e = .returned (.string (dN seq d)) ∧ Below w.heap.size w w' := by
 have H := aC.mk (Sep.eX (d := Kd.int .u8) (e := 5) (Sep.start w))
 have hsz : (d.size : Int) < 18446744073709551616 := by omega
 have hd2 : (0 : Int) ≤ (d.size : Int) := by omega
 go_enter Tryz.func78, Tryz.ntmps78
 go_wp2_with fail
 refine ((OG w _ [] (.slice none 0 0) [] (d.size : Int) 4 (by omega) hd2 hsz (by simp) H).mono ?_)
 rintro e w1 ⟨A1, c1, rfl, H1⟩
 clear H
 rw [List.nil_append] at H1
 obtain ⟨l1, hl1⟩ : ∃ l1, l1 = rQ (d.size : Int) 4 := ⟨_, rfl⟩
 rw [← hl1] at H1 ⊢
 have HL1 := aC.mk hl1
 have hn1 : l1.length = 4 := by rw [hl1]; simp [rQ]
 have HN1 := aC.mk hn1
 clear hl1 hn1
 go_wp2_with fail
 refine ((OG w _ [] _ l1 seq 8 (by omega) h0 h1 (by rw [HN1.out]; omega) H1).mono ?_)
 rintro e w2 ⟨A2, c2, rfl, H2⟩
 clear H1
 obtain ⟨l2, hl2⟩ : ∃ l2, l2 = l1 ++ rQ seq 8 := ⟨_, rfl⟩
 rw [← hl2] at H2 ⊢
 have HL2 := aC.mk hl2
 have HN2 := aC.mk (show l2.length = 12 by rw [hl2, List.length_append, HN1.out]; simp [rQ])
 clear hl2
 clear h1 hsz h0
 have hs2 := Kd.xJ (P := Tryz.prog) (src := 147) (dst := 9) (e := 5) (c := c2) Tryz.underlying147 Tryz.underlying5 Tryz.underlying9 (H2.out.reads aQ).2.2
 go_wp2_with fail
 clear hs2
 refine ((XE 4294967295 (strOfNums l2) _ (by rw [strOfNums_size, HN2.out]; omega)).mono ?_)
 rintro e w3 ⟨rfl, hb_⟩
 have H := aC.mk (H2.out.step hb_)
 clear H2 hb_
 go_wp2_with fail
 refine ((XE _ d _ (by omega)).mono ?_)
 rintro e w4 ⟨rfl, hb_⟩
 have n_ := aC.mk (H.out.step hb_)
 clear H hb_
 have H := n_
 clear n_
 obtain ⟨cc, hcc⟩ : ∃ cc, cc = qbn (qbn 4294967295 (strOfNums l2)) d := ⟨_, rfl⟩
 rw [← hcc]
 have HCC := aC.mk hcc
 clear hcc
 go_wp2_with (first
 |((with_reducible refine aV (N := 23) rfl ?_);
   refine qbl rfl rfl (.int .u8 0) 1 Tryz.underlying147 info5 rfl (by decide) (16 + d.size) ?hx ?hy (by omega) H ?_;
   (case hx => exact congrArg (Value.int .i64) (show (16 + (d.size : Int)) = ((16 + d.size : Nat) : Int) by omega));
   (case hy => exact congrArg (Value.int .i64) (show (16 + (d.size : Int)) = ((16 + d.size : Nat) : Int) by omega));
   intro g w5 H1; clear H; have H := H1; clear H1;
   simp only [Act.put, zA, zZ, zS])
 |fail)
 obtain ⟨sm, hsm⟩ : ∃ sm, sm = bits .xor .u32 IntKind.u32.max cc := ⟨_, rfl⟩
 have hs1 : 0 ≤ sm ∧ sm ≤ 4294967295 := by rw [hsm]; exact RG _ _ _
 obtain ⟨hs0, hs1⟩ := hs1
 rw [← hsm]
 have HSM := aC.mk hsm
 clear hsm
 rw [qab hs0 hs1]
 refine ((OG w _ _ _ l2 sm 4 (by omega) hs0 (by omega) (by rw [HN2.out]; omega) ⟨Sep.jK H.out⟩).mono ?_)
 rintro e w6 ⟨A3, c3, rfl, H3⟩
 clear H
 obtain ⟨l3, hl3⟩ : ∃ l3, l3 = l2 ++ rQ sm 4 := ⟨_, rfl⟩
 rw [← hl3] at H3 ⊢
 have HL3 := aC.mk hl3
 have hn3 : l3.length = 16 := by rw [hl3, List.length_append, HN2.out]; simp [rQ]
 clear hl3
 obtain ⟨ad, rfl, hsrc⟩ := qac (H3.out.reads aQ).2.2 (by omega)
 have qeZ := aC.mk hsrc
 have HN3 := aC.mk hn3
 clear hsrc hn3
 obtain ⟨l4, hl4⟩ : ∃ l4, l4 = l3 ++ List.replicate d.size (0 : Int) := ⟨_, rfl⟩
 have E1 : aC (List.take 0 (List.replicate (16 + d.size) (Value.int .u8 0)) ++ (nums .u8 l3 ++ List.drop (0 + (nums .u8 l3).length) (List.replicate (16 + d.size) (Value.int .u8 0))) = nums .u8 l4) := ⟨by
  rw [hl4, nums_append, nums_length, HN3.out, List.take_zero, List.nil_append, List.drop_replicate]
  congr 1
  rw [show 16 + d.size - (0 + 16) = d.size by omega]
  simp [nums]⟩
 have E2 : aC (l4.length = 16 + d.size) := ⟨by rw [hl4, List.length_append, HN3.out, List.length_replicate]⟩
 obtain ⟨l5, hl5⟩ : ∃ l5, l5 = l3 ++ bytesOf d := ⟨_, rfl⟩
 have E3 : aC ((nums .u8 l4).take 16 ++ (Lib.byteCells d.data.toList ++ (nums .u8 l4).drop (16 + d.size)) = nums .u8 l5) := ⟨by
  rw [List.drop_of_length_le (by rw [nums_length, E2.out]; omega), List.append_nil, RH, hl5, nums_append, hl4, nums_append, List.take_append_of_le_length (by rw [nums_length, HN3.out]; omega), List.take_of_length_le (by rw [nums_length, HN3.out]; omega)]⟩
 have E4 : aC (l5.length = 16 + d.size) := ⟨by rw [hl5, List.length_append, HN3.out, bytesOf_length]⟩
 have E5 : aC (dN seq d = strOfNums l5) := ⟨by
  rw [hl5, HL3.out, HL2.out, HL1.out, HSM.out, HCC.out, HL2.out, HL1.out]
  rfl⟩
 have hz : (Tryz.prog.info? 5).map (·.size) = some 1 := by kernel_rfl
 by_cases hde : d = ByteArray.empty
 ·have h0 : d.size = 0 := by rw [hde]; rfl
  have qiU : (d = ByteArray.empty) = True := eq_true hde
  have hce := fun dd dl dc w => Lib.run_copy_empty_string (P := Tryz.prog) w 147 9 3 5 dd dl dc d Tryz.underlying147 (by kernel_rfl) h0
  have E6 : aC (l4 = l5) := ⟨by rw [hl4, hl5, h0]; simp [show bytesOf d = [] by rw [hde]; rfl]⟩
  clear hl4 hl5
  have HDE := aC.mk hde
  have H0 := aC.mk h0
  clear hde h0
  go_wp2_with (first
 |((with_reducible refine iF (b := .copy) (xs := #[.tmp 24, .tmp 28]) rfl ?_);
   refine Q8 [row (Kd.int .u8) 5 (.slice (some ad) l3.length c3) l3] [] rfl (.tmp 24) (.tmp 28) 147 147 rfl 5 Tryz.underlying147 hz g 0 (16 + d.size) (16 + d.size) ad l3.length c3 rfl rfl _ 5 (nums .u8 l3) H3 ?hn qeZ.out ?hfit ?h1 ?_;
   (case hn => rw [nums_length, HN3.out]; simp only [Nat.min_def]; split <;> omega);
   (case hfit => rw [nums_length, HN3.out, List.length_replicate]; omega);
   (case h1 => intro v hv; simp only [nums, List.mem_map] at hv; obtain ⟨q, _, rfl⟩ := hv; rfl);
   intro w7 H4; rw [E1.out] at H4;
   have H5 : aC (Sep w w7 [row (Kd.int .u8) 5 (.slice (some ad) l3.length c3) l3, box g (nums .u8 l4) 5]) := H4; clear H4;
   have H7 : aC (Sep w w7 [row (Kd.int .u8) 5 (.slice (some ad) l3.length c3) l3, box g (nums .u8 l5) 5]) := (by rw [← E6.out]; exact H5); clear H5;
   have C7 := qbk (H7.out.lD mem1) (by rw [E4.out]; omega); rw [E4.out] at C7;
   have hs7 := Kd.xJ (P := Tryz.prog) (src := 147) (dst := 9) (e := 5) (c := 16 + d.size) Tryz.underlying147 Tryz.underlying5 Tryz.underlying9 C7;
   simp only [Act.put, zA, zZ, zS])
 |fail)
  go_ret
  exact ⟨by rw [E5.out]; rfl, H7.out.below⟩
 ·clear hl4 hl5
  go_wp2_with (first
 |((with_reducible refine iF (b := .copy) (xs := #[.tmp 24, .tmp 28]) rfl ?_);
   refine Q8 [row (Kd.int .u8) 5 (.slice (some ad) l3.length c3) l3] [] rfl (.tmp 24) (.tmp 28) 147 147 rfl 5 Tryz.underlying147 hz g 0 (16 + d.size) (16 + d.size) ad l3.length c3 rfl rfl _ 5 (nums .u8 l3) H3 ?hn qeZ.out ?hfit ?h1 ?_;
   (case hn => rw [nums_length, HN3.out]; simp only [Nat.min_def]; split <;> omega);
   (case hfit => rw [nums_length, HN3.out, List.length_replicate]; omega);
   (case h1 => intro v hv; simp only [nums, List.mem_map] at hv; obtain ⟨q, _, rfl⟩ := hv; rfl);
   intro w7 H4; rw [E1.out] at H4;
   have H5 : aC (Sep w w7 [row (Kd.int .u8) 5 (.slice (some ad) l3.length c3) l3, box g (nums .u8 l4) 5]) := H4; clear H4;
   simp only [Act.put, zA, zZ, zS])
 |((with_reducible refine iF (b := .copy) (xs := #[.tmp 31, .tmp 32]) rfl ?_);
   refine Z5 [row (Kd.int .u8) 5 (.slice (some ad) l3.length c3) l3] [] rfl (.tmp 31) (.tmp 32) 147 9 rfl 5 Tryz.underlying147 hz g 16 _ _ d rfl rfl (nums .u8 l4) 5 H5 ?hle ?hfit ?_;
   (case hle => omega);
   (case hfit => rw [nums_length, E2.out]; omega);
   intro w8 H6; rw [E3.out] at H6;
   have H7 : aC (Sep w w8 [row (Kd.int .u8) 5 (.slice (some ad) l3.length c3) l3, box g (nums .u8 l5) 5]) := H6; clear H6;
   have C7 := qbk (H7.out.lD mem1) (by rw [E4.out]; omega); rw [E4.out] at C7;
   have hs7 := Kd.xJ (P := Tryz.prog) (src := 147) (dst := 9) (e := 5) (c := 16 + d.size) Tryz.underlying147 Tryz.underlying5 Tryz.underlying9 C7;
   simp only [Act.put, zA, zZ, zS])
 |fail)
  go_ret
  exact ⟨by rw [E5.out]; rfl, H7.out.below⟩
end Go.Proofs.U
namespace Go.Proofs.U
open Go.RowKit Go.Proofs.aA.aK Go.Proofs.aA.aW Go.Proofs.aA.aZ
def wE (x y : ByteArray) : Int := if Op.bytesLess x.toList y.toList = true then -1 else if x.toList = y.toList then 0 else 1
theorem RI (x y : ByteArray) (w : World) :
  Calls Tryz.prog 158 #[.string x, .string y] w fun e w' => e = .returned (.int .i64 (wE x y)) ∧ w = w' := by
 by_cases h1 : Op.bytesLess x.toList y.toList = true
 ·go_enter Tryz.func158, Tryz.ntmps158
  go_wp2
  go_ret
  exact ⟨by simp [wE, h1], rfl⟩
 ·have h1' : Op.bytesLess x.toList y.toList = false := by simpa using h1
  by_cases h2 : x.toList = y.toList
  ·have h3 : (!x.toList == y.toList) = false := by simp [h2]
   have e : wE x y = 0 := by unfold wE; rw [if_neg h1, if_pos h2]
   rw [e]
   clear h1 h2 e
   go_enter Tryz.func158, Tryz.ntmps158
   go_wp2
   go_ret
   exact ⟨rfl, rfl⟩
  ·have h3 : (!x.toList == y.toList) = true := by simp [h2]
   have e : wE x y = 1 := by simp [wE, h1', h2]
   rw [e]
   clear h1 h2 e
   go_enter Tryz.func158, Tryz.ntmps158
   go_wp2
   go_ret
   exact ⟨rfl, rfl⟩
theorem zY (x : S67) (y : ByteArray) (w : World) :
  Calls Tryz.prog 157 #[.agg #[.string x.f0, .string x.f1, .int .i64 x.f2], .string y] w fun e w' => e = .returned (.int .i64 (wE x.f0 y)) ∧ Below w.heap.size w w' := by
 go_enter Tryz.func157, Tryz.ntmps157
 go_wp2_with (go_at_call 158; refine (RI _ _ _).mono ?_; rintro e w' ⟨rfl, rfl⟩)
 go_ret
 exact ⟨rfl, (Below.refl _ _).alloc (Nat.le_refl _) _⟩
def bsGo (l : List S67) (s : ByteArray) : Nat → Nat → Nat → Nat
 | 0, i, _ => i
 | f + 1, i, j => if i < j then (if wE (dX l (((i + j) / 2 : Nat) : Int)).f0 s < 0 then bsGo l s f ((i + j) / 2 + 1) j else bsGo l s f i ((i + j) / 2)) else i
theorem JA (l : List S67) (s : ByteArray) : ∀ (f i j : Nat), i ≤ j → i ≤ bsGo l s f i j ∧ bsGo l s f i j ≤ j
 | 0, i, j, h => ⟨Nat.le_refl _, h⟩
 | f + 1, i, j, h => by
  unfold bsGo
  split
  ·split
   ·have := JA l s f ((i + j) / 2 + 1) j (by omega); omega
   ·have := JA l s f i ((i + j) / 2) (by omega); omega
  ·omega
def bsOf (l : List S67) (s : ByteArray) : Nat := bsGo l s l.length 0 l.length
def kG (l : List S67) (s : ByteArray) (i : Nat) : Bool := decide (i < l.length) && (wE (dX l (i : Int)).f0 s == 0)
theorem U6 (x y : ByteArray) : -1 ≤ wE x y ∧ wE x y ≤ 1 := by
 unfold wE
 split
 ·omega
 ·split <;> omega
set_option maxHeartbeats 1600000 in
theorem U7 (A : Option Addr) (c : Nat) (l : List S67) (s : ByteArray) (w : World) (hr : Kd.C k67 w A l.length l) (hn : l.length ≤ 64) :
  Calls Tryz.prog 156 #[.slice A l.length c, .string s, .func (.func 157) #[] #[]] w fun e w' => e = .returned (.tuple #[.int .i64 (bsOf l s), .bool (kG l s (bsOf l s))]) ∧ Below w.heap.size w w' := by
 have HR := aC.mk hr
 clear hr
 go_enter Tryz.func156, Tryz.ntmps156
 go_wp2
 go_loopw [9, 10] (fun vi vj wr => ∃ i j f : Nat, vi = .int .i64 i ∧ vj = .int .i64 j ∧ i ≤ j ∧ j ≤ l.length ∧ j ≤ i + f ∧ aC (bsGo l s f i j = bsOf l s) ∧ aC (Below w.heap.size w wr))
  (fun vi vj _ => (intOf vj).toNat - (intOf vi).toNat)
 case atStart => exact ⟨0, l.length, l.length, rfl, rfl, by omega, by omega, by omega, ⟨rfl⟩, ⟨Below.refl _ _⟩⟩
 case round =>
  obtain ⟨i, j, f, rfl, rfl, hij, hjn, hjf, HG, HB⟩ := hrel
  by_cases hlt : i < j
  ·have hr1 := Kd.fG HR.out HB.out
   obtain ⟨ad, rfl, hc0, hc1, hc2⟩ := JR hr1 (((i + j) / 2 : Nat) : Int) (by omega) (by omega)
   clear hr1
   simp only [Int.toNat_natCast] at hc0 hc1 hc2
   have hrg := U6 (dX l (((i + j) / 2 : Nat) : Int)).f0 s
   obtain ⟨x, hx⟩ : ∃ x, x = dX l (((i + j) / 2 : Nat) : Int) := ⟨_, rfl⟩
   rw [← hx] at hc0 hc1 hc2 hrg
   have HX := aC.mk hx
   clear hx
   by_cases hcm : wE x.f0 s < 0
   ·go_wp2_with (go_at_call 157; refine (zY x s _).mono ?_; rintro e w' ⟨rfl, hb⟩)
    refine ⟨⟨(i + j) / 2 + 1, j, f - 1, by congr 1, rfl, by omega, hjn, by omega, ⟨?_⟩, ⟨bD HB.out hb⟩⟩, by simp [intOf]; omega⟩
    have h := HG.out
    obtain ⟨f, rfl⟩ : ∃ f', f = f' + 1 := ⟨f - 1, by omega⟩
    rw [← h, bsGo, if_pos hlt, if_pos (by rw [← HX.out]; exact hcm)]
    rfl
   ·have hcm2 : decide (wE x.f0 s < 0) = false := by simpa using hcm
    go_wp2_with (go_at_call 157; refine (zY x s _).mono ?_; rintro e w' ⟨rfl, hb⟩)
    refine ⟨⟨i, (i + j) / 2, f - 1, rfl, by congr 1, by omega, by omega, by omega, ⟨?_⟩, ⟨bD HB.out hb⟩⟩, by simp [intOf]; omega⟩
    have h := HG.out
    obtain ⟨f, rfl⟩ : ∃ f', f = f' + 1 := ⟨f - 1, by omega⟩
    rw [← h, bsGo, if_pos hlt, if_neg (by rw [← HX.out]; omega)]
    rfl
  ·have hij2 : i = j := by omega
   subst hij2
   have HI : aC (i = bsOf l s) := by
    have h := HG.out
    refine ⟨?_⟩
    rw [← h]
    cases f <;> simp [bsGo]
   by_cases hin : i < l.length
   ·have hr1 := Kd.fG HR.out HB.out
    obtain ⟨ad, rfl, hc0, hc1, hc2⟩ := JR hr1 (i : Int) (by omega) (by omega)
    clear hr1
    simp only [Int.toNat_natCast] at hc0 hc1 hc2
    obtain ⟨x, hx⟩ : ∃ x, x = dX l (i : Int) := ⟨_, rfl⟩
    rw [← hx] at hc0 hc1 hc2
    have HX := aC.mk hx
    clear hx
    go_wp2_with (go_at_call 157; refine (zY x s _).mono ?_; rintro e w' ⟨rfl, hb⟩)
    go_ret2
    refine ⟨?_, bD HB.out hb⟩
    rw [← HI.out]
    have e1 : kG l s i = (wE x.f0 s == 0) := by unfold kG; rw [← HX.out]; simp [hin]
    rw [e1]
    rfl
   ·have e1 : kG l s i = false := by unfold kG; simp [hin]
    go_wp2
    go_ret2
    refine ⟨?_, HB.out⟩
    rw [← HI.out, e1]
    rfl
def sZ.f (bF : List (S67)) (cO : Bool) (cZ : Int) (dA : Int) (a1 : ByteArray) : Option (Int × Bool) := if bF.length ≤ 64 then some ((bsOf bF a1 : Int), kG bF a1 (bsOf bF a1)) else none
theorem sZ.calls (dQ : Option Addr) (dR : Nat) (bF : List (S67)) (cO : Bool) (cZ : Int) (dA : Int) (a1 : ByteArray) (r1 : Int) (r2 : Bool) (w : World) (jV : Kd.C k67 w dQ bF.length bF) (lF : bF.length ≤ dR) (h : sZ.f bF cO cZ dA a1 = some (r1, r2)) :
  Calls Tryz.prog 114 #[.agg #[.slice dQ bF.length dR, .bool cO, .int .i64 cZ, .int .i64 dA], .string a1] w fun e w' => e = .returned (.tuple #[.int .i64 r1, .bool r2]) ∧ Below w.heap.size w w' := by
 unfold sZ.f at h
 split at h
 case isFalse => cases h
 rename_i hn
 simp only [Option.some.injEq, Prod.mk.injEq] at h
 obtain ⟨rfl, rfl⟩ := h
 have HR := aC.mk jV
 clear jV
 go_enter Tryz.func114, Tryz.ntmps114
 go_wp2_with (go_at_call 156; (with_reducible refine (U7 dQ dR bF a1 _ (Kd.fG HR.out ((Below.refl _ _).alloc (Nat.le_refl _) _)) hn).mono ?_); rintro e w' ⟨rfl, hb⟩)
 go_ret2
 exact ⟨rfl, bD ((Below.refl _ _).alloc (Nat.le_refl _) _) hb⟩
theorem sJ : ∀ a : List UInt8, Op.bytesLess a a = false
 | [] => rfl
 | x :: r => by
  simp only [Op.bytesLess, Bool.or_eq_false_iff, Bool.and_eq_false_iff]
  exact ⟨by simp, .inr (sJ r)⟩
theorem JY : ∀ a b : List UInt8, Op.bytesLess a b = true → Op.bytesLess b a = false
 | a, [], h => by cases a <;> simp [Op.bytesLess] at h
 | [], y :: s, h => rfl
 | x :: r, y :: s, h => by
  simp only [Op.bytesLess, Bool.or_eq_true, Bool.and_eq_true, decide_eq_true_eq, beq_iff_eq] at h
  simp only [Op.bytesLess, Bool.or_eq_false_iff, Bool.and_eq_false_iff, decide_eq_false_iff_not]
  rcases h with h | ⟨rfl, h⟩
  ·have hn : x.toNat < y.toNat := h
   refine ⟨fun hh => ?_, .inl ?_⟩
   ·have : y.toNat < x.toNat := hh
    omega
   ·simp only [beq_eq_false_iff_ne, ne_eq]
    rintro rfl
    omega
  ·exact ⟨fun hh => by have : x.toNat < x.toNat := hh; omega, .inr (JY r s h)⟩
theorem DN : ∀ a b : List UInt8, Op.bytesLess a b = true ∨ a = b ∨ Op.bytesLess b a = true
 | [], [] => .inr (.inl rfl)
 | [], y :: s => .inl rfl
 | x :: r, [] => .inr (.inr rfl)
 | x :: r, y :: s => by
  simp only [Op.bytesLess, Bool.or_eq_true, Bool.and_eq_true, decide_eq_true_eq, beq_iff_eq, List.cons.injEq]
  rcases Nat.lt_trichotomy x.toNat y.toNat with h | h | h
  ·exact .inl (.inl h)
  ·have e : x = y := UInt8.toNat_inj.mp h
   subst e
   rcases DN r s with g | g | g
   ·exact .inl (.inr ⟨rfl, g⟩)
   ·exact .inr (.inl ⟨rfl, g⟩)
   ·exact .inr (.inr (.inr ⟨rfl, g⟩))
  ·exact .inr (.inr (.inl h))
theorem xR : ∀ a b c : List UInt8, Op.bytesLess a b = true → Op.bytesLess b c = true → Op.bytesLess a c = true
 | a, b, [], h, k => by cases b <;> simp [Op.bytesLess] at k
 | [], b, z :: t, h, k => rfl
 | x :: r, [], z :: t, h, k => by simp [Op.bytesLess] at h
 | x :: r, y :: s, z :: t, h, k => by
  simp only [Op.bytesLess, Bool.or_eq_true, Bool.and_eq_true, decide_eq_true_eq, beq_iff_eq] at h k ⊢
  rcases h with h | ⟨rfl, h⟩
  ·rcases k with k | ⟨rfl, k⟩
   ·left
    have h' : x.toNat < y.toNat := h
    have k' : y.toNat < z.toNat := k
    show x.toNat < z.toNat
    omega
   ·exact .inl h
  ·rcases k with k | ⟨rfl, k⟩
   ·exact .inl k
   ·exact .inr ⟨rfl, xR r s t h k⟩
theorem U8 : (⟨#[]⟩ : ByteArray).toList = [] := by
 unfold ByteArray.toList
 rw [ByteArray.toList.loop]
 rfl
def AA (last : List UInt8) (f : S67) : Bool := Op.bytesLess last f.f0.toList && decide (f.f0.size ≤ 4096) && decide (f.f1.size ≤ 262144) && decide (0 ≤ f.f2) && decide (f.f2 ≤ (f.f1.size : Int))
def oC : List UInt8 → List S67 → Bool
 | _, [] => true
 | last, f :: r => AA last f && oC f.f0.toList r
def bI (l : List S67) : Bool := oC [] l && decide (l.length ≤ 64)
theorem qcD (l : List S67) (i : Nat) (h : i < l.length) : l.drop i = dX l (i : Int) :: l.drop (i + 1) := by
 rw [List.drop_eq_getElem_cons h]
 congr 1
 simp [dX, List.getD, h]
def dO.f (bF : List (S67)) (cO : Bool) (cZ : Int) (dA : Int) : Option (Int) := some (if bI bF = true then 0 else 6)
set_option maxHeartbeats 1600000 in
theorem dO.calls (dQ : Option Addr) (dR : Nat) (bF : List (S67)) (cO : Bool) (cZ : Int) (dA : Int) (r : Int) (w : World) (jV : Kd.C k67 w dQ bF.length bF) (lF : bF.length ≤ dR) (h : dO.f bF cO cZ dA = some r) :
  Calls Tryz.prog 50 #[.agg #[.slice dQ bF.length dR, .bool cO, .int .i64 cZ, .int .i64 dA]] w fun e w' => e = .returned (.int .i64 r) ∧ Below w.heap.size w w' := by
 unfold dO.f at h
 have HRR := aC.mk (Option.some.inj h).symm
 clear h
 have hlen : bF.length ≤ 9223372036854775807 := jV.2.1
 have HR := aC.mk jV
 clear jV
 go_enter Tryz.func50, Tryz.ntmps50
 go_wp2
 go_loopw [3, 9] (fun vl vi wr => ∃ (i : Nat) (last : ByteArray), vl = .string last ∧ vi = .int .i64 i ∧ i ≤ bF.length ∧ aC (oC last.toList (bF.drop i) = oC [] bF) ∧ aC (wr.heap[w.heap.size]? = some (.cells #[.slice dQ bF.length dR, .bool cO, .int .i64 cZ, .int .i64 dA] 27 (0, 0))) ∧ aC (Below w.heap.size w wr))
  (fun vl vi _ => bF.length - (intOf vi).toNat)
 case atStart => exact ⟨0, _, rfl, rfl, Nat.zero_le _, ⟨by rw [List.drop_zero, U8]⟩, ⟨kK _ _⟩, ⟨(Below.refl _ _).alloc (Nat.le_refl _) _⟩⟩
 case round =>
  obtain ⟨i, last, rfl, rfl, hin, HG, HK, HB⟩ := hrel
  by_cases hlt : i < bF.length
  ·have hr1 := Kd.fG HR.out HB.out
   obtain ⟨ad, rfl, hc0, hc1, hc2⟩ := JR hr1 (i : Int) (by omega) (by omega)
   clear hr1
   have HD := aC.mk (qcD bF i hlt)
   simp only [Int.toNat_natCast] at hc0 hc1 hc2
   obtain ⟨x, hx⟩ : ∃ x, x = dX bF (i : Int) := ⟨_, rfl⟩
   rw [← hx] at hc0 hc1 hc2 HD
   clear hx
   by_cases hok : AA last.toList x = true
   ·have hok2 := hok
    simp only [AA, Bool.and_eq_true, decide_eq_true_eq] at hok2
    obtain ⟨⟨⟨⟨c1, c2⟩, c3⟩, c4⟩, c5⟩ := hok2
    have g1 : Op.bytesLess x.f0.toList last.toList = false := JY _ _ c1
    have g2 : (x.f0.toList == last.toList) = false := by
     simp only [beq_eq_false_iff_ne, ne_eq]
     intro e
     rw [e, sJ] at c1
     cases c1
    have c2' : (x.f0.size : Int) ≤ 4096 := by omega
    have c3' : (x.f1.size : Int) ≤ 262144 := by omega
    have HOK := aC.mk hok
    clear c1 hok c2 c3
    go_wp2
    refine ⟨⟨i + 1, x.f0, by simp, by congr 1, by omega, ⟨?_⟩, ⟨bG HK.out _⟩, ⟨aU HB.out _⟩⟩, by simp [intOf]; omega⟩
    have h := HG.out
    rw [HD.out] at h
    simp only [oC, HOK.out, Bool.true_and] at h
    exact h
   ·have HR6 : aC (r = 6) := by
     refine ⟨?_⟩
     have h := HG.out
     rw [HD.out] at h
     have e : AA last.toList x = false := by simpa using hok
     simp only [oC, e, Bool.false_and] at h
     rw [HRR.out, bI, ← h]
     rfl
    by_cases c1 : Op.bytesLess last.toList x.f0.toList = true
    ·have g1 : Op.bytesLess x.f0.toList last.toList = false := JY _ _ c1
     have g2 : (x.f0.toList == last.toList) = false := by
      simp only [beq_eq_false_iff_ne, ne_eq]
      intro e
      rw [e, sJ] at c1
      cases c1
     have hbad : aC (¬ ((x.f0.size : Int) ≤ 4096 ∧ (x.f1.size : Int) ≤ 262144 ∧ 0 ≤ x.f2 ∧ x.f2 ≤ (x.f1.size : Int))) := by
      refine ⟨fun hh => hok ?_⟩
      simp only [AA, Bool.and_eq_true, decide_eq_true_eq]
      exact ⟨⟨⟨⟨c1, by omega⟩, by omega⟩, hh.2.2.1⟩, hh.2.2.2⟩
     clear c1 hok
     go_wp2
     all_goals first
      | (go_ret; exact ⟨by rw [HR6.out]; rfl, aU HB.out _⟩)
      | (have := hbad.out; exfalso; omega)
    ·have g0 : (Op.bytesLess x.f0.toList last.toList || x.f0.toList == last.toList) = true := by
      rcases DN last.toList x.f0.toList with g | g | g
      ·exact absurd g c1
      ·simp [g]
      ·simp [g]
     clear c1 hok
     go_wp2
     all_goals first
      | (go_ret; exact ⟨by rw [HR6.out]; rfl, aU HB.out _⟩)
  ·have qiV : wr.cell? ⟨w.heap.size, 0, none⟩ = some (.slice dQ bF.length dR) := (aH HK.out 0).trans rfl
   have hi : i = bF.length := by omega
   subst hi
   have HOK : aC (oC [] bF = true) := ⟨by have h := HG.out; rw [List.drop_length] at h; exact h.symm⟩
   by_cases hn : bF.length ≤ 64
   ·have HR0 : aC (r = 0) := ⟨by rw [HRR.out, bI, HOK.out]; simp [hn]⟩
    go_wp2
    go_ret
    exact ⟨by rw [HR0.out]; rfl, HB.out⟩
   ·have HR0 : aC (r = 6) := ⟨by rw [HRR.out, bI, HOK.out]; simp [hn]⟩
    go_wp2
    go_ret
    exact ⟨by rw [HR0.out]; rfl, HB.out⟩
def pW.f (l0 : List (S67)) : Option (List (S67)) := if l0.length < 3518437208883 then some l0 else none
set_option maxHeartbeats 1600000 in
theorem pW.calls (A0 : Option Addr) (c0 : Nat) (l0 : List (S67)) (r : List (S67)) (w : World) (hr0 : Kd.C k67 w A0 l0.length l0) (hc0 : l0.length ≤ c0) (h : pW.f l0 = some r) :
  Calls Tryz.prog 63 #[.slice A0 l0.length c0] w fun e w' => ∃ v0_ : Value, e = .returned v0_ ∧ Kd.R k67 67 w' w.heap.size (fun _ => True) v0_ r ∧ Below w.heap.size w w' := by
 unfold pW.f at h
 split at h
 case isFalse => cases h
 rename_i hn
 have HE := aC.mk (Option.some.inj h)
 clear h
 have HR := aC.mk hr0
 clear hr0
 have hnil : ∀ (a : Option Addr) (n c : Nat) (w : World), (binOp .eql 25 (.slice a n c) (.slice none 0 0)).run Tryz.prog w = .ok (.bool a.isNone) w := fun a n c w => by
  simp only [binOp]
  simp [Op.equal, Op.maxDepth, Lib.run_equalIn_slice_nil w 9999 25 67 a n c 0 0 Tryz.underlying25]
 cases A0 with
 | none =>
  have hl : l0 = [] := by
   cases l0 with
   | nil => rfl
   | cons x s => obtain ⟨ad, h, _⟩ := HR.out.2.2 (by simp); cases h
  go_enter Tryz.func63, Tryz.ntmps63
  go_wp2
  go_ret
  exact ⟨_, rfl, by rw [← HE.out, hl]; exact Kd.xI _ _ _ _ _, Below.refl _ _⟩
 | some ad =>
  go_enter Tryz.func63, Tryz.ntmps63
  go_wp2_with (first
 |((with_reducible refine aV (N := 5) rfl ?_);
   refine Kd.qdE k67 _ 67 ?hg (N := 5) ?hd (xs := ([] : List (S67))) (inner := []) (ok := fun _ => True) (okp := fun _ => True) ?hr ?hp (fun _ hk => hk) trivial (Below.refl _ _) (Nat.le_refl _) (by simp) ?_;
   (case hd => rfl); (case hg => rfl); (case hr => first | (go_simp; done) | (go_simp; rfl)); (case hp => exact (fP.none _ _));
   intro v5 w5 ho hb hg_ qbq; clear hg_ qbq; have HO := aC.mk ho; have HB := aC.mk hb; clear ho hb)
 |((with_reducible refine iF (b := .append) (xs := #[.tmp 5, .tmp 6]) rfl ?_); at_builtin;
   refine Kd.uS k67 (w0 := w) w.heap.size rfl (.tmp 5) (.tmp 6) 25 67 (.agg #[(.string ⟨#[]⟩), (.string ⟨#[]⟩), (.int .i64 0)]) 40 rfl Tryz.underlying25 EU rfl (by decide) (by omega) v5 [] l0 _ _ _ (fun _ => True) (fun _ => False) rfl rfl ?aO ?aR (fun _ _ h => h) (fun _ h => h.elim) ?aF ?aB ?aS ?aL ?_;
   (case aR => exact Kd.fG HR.out HB.out); (case aB => exact HB.out); (case aF => exact fun _ _ => trivial); (case aO => exact HO.out); (case aS => exact HB.out.size); (case aL => simp only [List.length_nil]; omega);
   intro v7 w9 ho hb hg hat; clear hg hat; have HO2 := aC.mk ho; have HB2 := aC.mk hb; clear ho hb))
  go_ret
  exact ⟨_, rfl, by rw [← HE.out]; exact HO2.out, HB2.out⟩
end Go.Proofs.U
