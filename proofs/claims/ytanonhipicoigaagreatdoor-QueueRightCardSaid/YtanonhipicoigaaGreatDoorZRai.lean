import Derived.Test.YtanonhipicoigaaGreatDoorProg
import Derived.WalkLawsBesides
import Derived.Test.YtanonhipicoigaaGreatDoorZRag
import Derived.Test.YtanonhipicoigaaGreatDoorZRah
import Derived.Deep.Slices
import Derived.Deep.Fields
import Derived.ChangeSame
import Derived.Lib.SmallJoins
import Derived.Outline
import Derived.Deep.MidRow
import Derived.Laws.CopyOwn
import Derived.Lib.BufferWrite
import Derived.BigFrame
import Derived.OpenShut
import Derived.WalkSpells
set_option linter.unusedVariables false
set_option linter.unusedSimpArgs false
set_option maxRecDepth 100000
namespace Go.Proofs.U
open Go.RowKit Go.Proofs.aA.aK Go.Proofs.aA.aW Go.Proofs.aA.aX
attribute [local go_sem] iD iG jB jJ gU gV iP iQ
def qeb : Option Int → Value
 | none => .nilIface
 | some c => .iface 258 (.int .i64 c)
theorem gK : qeb none = .nilIface := rfl
theorem gQ (c : Int) : qeb (some c) = .iface 258 (.int .i64 c) := rfl
theorem info5 : (Tryz.prog.info? 5).map (fun i => (i.zero, i.size, i.bytes)) = some (some (.int .u8 0), 1, 1) := by kernel_rfl
theorem MR : (Tryz.prog.info? 41).map (fun i => (i.zero, i.size, i.bytes)) = some (some (.agg #[(.int .u64 0), (.string ⟨#[]⟩), (.bool false)]), 3, 32) := by kernel_rfl
theorem qdn : (Tryz.prog.info? 62).map (fun i => (i.zero, i.size, i.bytes)) = some (some (.agg #[(.int .u64 0), (.string ⟨#[]⟩)]), 2, 24) := by kernel_rfl
theorem DZ : (Tryz.prog.info? 67).map (fun i => (i.zero, i.size, i.bytes)) = some (some (.agg #[(.string ⟨#[]⟩), (.string ⟨#[]⟩), (.int .i64 0)]), 3, 40) := by kernel_rfl
structure S67 where
 f0 : ByteArray
 f1 : ByteArray
 f2 : Int
def z67 : S67 := ⟨(⟨#[]⟩ : ByteArray), (⟨#[]⟩ : ByteArray), (0 : Int)⟩
def k67 : Kd S67 := Kd.iso (Kd.pair Kd.string (Kd.pair Kd.string (Kd.int .i64))) (fun x : S67 => (x.f0, x.f1, x.f2))
theorem PS {w : World} {x : S67} {cs : List Value} (h : k67.K w x cs) : cs = [.string x.f0, .string x.f1, .int .i64 x.f2] := by
 obtain ⟨_, _, rfl, rfl, ⟨_, _, rfl, rfl, rfl⟩⟩ := h
 exact rfl
theorem KU {w : World} {base : Nat} {ok : Nat → Prop} {x : S67} {cs : List Value} (h : k67.M w base ok x cs) : cs = [.string x.f0, .string x.f1, .int .i64 x.f2] := by
 obtain ⟨_, _, rfl, rfl, ⟨_, _, rfl, rfl, rfl⟩⟩ := h
 exact rfl
theorem qdo (w : World) (x : S67)  : k67.K w x [.string x.f0, .string x.f1, .int .i64 x.f2] := ⟨[.string x.f0], [.string x.f1, .int .i64 x.f2], rfl, rfl, ⟨[.string x.f1], [.int .i64 x.f2], rfl, rfl, rfl⟩⟩
theorem xW (w : World) (base : Nat) (ok : Nat → Prop) (x : S67)  : k67.M w base ok x [.string x.f0, .string x.f1, .int .i64 x.f2] := ⟨[.string x.f0], [.string x.f1, .int .i64 x.f2], rfl, rfl, ⟨[.string x.f1], [.int .i64 x.f2], rfl, rfl, rfl⟩⟩
def dV (xs : List S67) (i : Int) : S67 := xs.getD i.toNat z67
theorem IU {w : World} {A : Option Addr} {n : Nat} {xs : List S67} (h : Kd.C k67 w A n xs) (i : Int) (h0 : 0 ≤ i) (h1 : i < n) : ∃ ad , A = some ad ∧ w.cell? (ad.add (i.toNat * 3)) = some (.string (dV xs i).f0) ∧ w.cell? ⟨(ad.add (i.toNat * 3)).block, (ad.add (i.toNat * 3)).off + 1, none⟩ = some (.string (dV xs i).f1) ∧ w.cell? ⟨(ad.add (i.toNat * 3)).block, (ad.add (i.toNat * 3)).off + 2, none⟩ = some (.int .i64 (dV xs i).f2) := by
 obtain ⟨ad, c, e, _, hK, hc0⟩ := Kd.yL h z67 i h0 h1
 have hc : ∀ j u, c[j]? = some u → w.cell? (ad.add (i.toNat * 3 + j)) = some u := hc0
 obtain rfl := PS hK
 exact ⟨ad, e, hc 0 _ rfl, by rw [← kT _ _ 1 (by omega)]; exact hc 1 _ rfl, by rw [← kT _ _ 2 (by omega)]; exact hc 2 _ rfl⟩
structure S62 where
 f0 : Int
 f1 : ByteArray
def k62 : Kd S62 := Kd.iso (Kd.pair (Kd.int .u64) Kd.string) (fun x : S62 => (x.f0, x.f1))
theorem qav {w : World} {x : S62} {cs : List Value} (h : k62.K w x cs) : cs = [.int .u64 x.f0, .string x.f1] := by
 obtain ⟨_, _, rfl, rfl, rfl⟩ := h
 exact rfl
theorem YS {w : World} {base : Nat} {ok : Nat → Prop} {x : S62} {cs : List Value} (h : k62.M w base ok x cs) : cs = [.int .u64 x.f0, .string x.f1] := by
 obtain ⟨_, _, rfl, rfl, rfl⟩ := h
 exact rfl
theorem VP (w : World) (base : Nat) (ok : Nat → Prop) (x : S62)  : k62.M w base ok x [.int .u64 x.f0, .string x.f1] := ⟨[.int .u64 x.f0], [.string x.f1], rfl, rfl, rfl⟩
structure S41 where
 f0 : Int
 f1 : ByteArray
 f2 : Bool
def z41 : S41 := ⟨(0 : Int), (⟨#[]⟩ : ByteArray), false⟩
def k41 : Kd S41 := Kd.iso (Kd.pair (Kd.int .u64) (Kd.pair Kd.string Kd.bool)) (fun x : S41 => (x.f0, x.f1, x.f2))
theorem CO {w : World} {x : S41} {cs : List Value} (h : k41.K w x cs) : cs = [.int .u64 x.f0, .string x.f1, .bool x.f2] := by
 obtain ⟨_, _, rfl, rfl, ⟨_, _, rfl, rfl, rfl⟩⟩ := h
 exact rfl
theorem KW {w : World} {base : Nat} {ok : Nat → Prop} {x : S41} {cs : List Value} (h : k41.M w base ok x cs) : cs = [.int .u64 x.f0, .string x.f1, .bool x.f2] := by
 obtain ⟨_, _, rfl, rfl, ⟨_, _, rfl, rfl, rfl⟩⟩ := h
 exact rfl
theorem qaw (w : World) (x : S41)  : k41.K w x [.int .u64 x.f0, .string x.f1, .bool x.f2] := ⟨[.int .u64 x.f0], [.string x.f1, .bool x.f2], rfl, rfl, ⟨[.string x.f1], [.bool x.f2], rfl, rfl, rfl⟩⟩
theorem GU (w : World) (base : Nat) (ok : Nat → Prop) (x : S41)  : k41.M w base ok x [.int .u64 x.f0, .string x.f1, .bool x.f2] := ⟨[.int .u64 x.f0], [.string x.f1, .bool x.f2], rfl, rfl, ⟨[.string x.f1], [.bool x.f2], rfl, rfl, rfl⟩⟩
def dN (xs : List S41) (i : Int) : S41 := xs.getD i.toNat z41
theorem wI {w : World} {A : Option Addr} {n : Nat} {xs : List S41} (h : Kd.C k41 w A n xs) (i : Int) (h0 : 0 ≤ i) (h1 : i < n) : ∃ ad , A = some ad ∧ w.cell? (ad.add (i.toNat * 3)) = some (.int .u64 (dN xs i).f0) ∧ w.cell? ⟨(ad.add (i.toNat * 3)).block, (ad.add (i.toNat * 3)).off + 1, none⟩ = some (.string (dN xs i).f1) ∧ w.cell? ⟨(ad.add (i.toNat * 3)).block, (ad.add (i.toNat * 3)).off + 2, none⟩ = some (.bool (dN xs i).f2) := by
 obtain ⟨ad, c, e, _, hK, hc0⟩ := Kd.yL h z41 i h0 h1
 have hc : ∀ j u, c[j]? = some u → w.cell? (ad.add (i.toNat * 3 + j)) = some u := hc0
 obtain rfl := CO hK
 exact ⟨ad, e, hc 0 _ rfl, by rw [← kT _ _ 1 (by omega)]; exact hc 1 _ rfl, by rw [← kT _ _ 2 (by omega)]; exact hc 2 _ rfl⟩
end Go.Proofs.U
namespace Go.Proofs.U
open Go.ChangeShapes Go.WideShapes Go.Deep Go.RowKit Go.Proofs.aA.aK Go.Proofs.aA.aW Go.Proofs.aA.aX
theorem VQ {α : Type} {Q : Nat → α → Prop} (n : Nat) (h : ∀ i, i < n → ∃ x, Q i x) : ∃ l : List α, l.length = n ∧ ∀ (i : Nat) (x : α), l[i]? = some x → Q i x := by
 induction n with
 | zero => exact ⟨[], rfl, by simp⟩
 | succ n ih =>
  obtain ⟨l, hl, hq⟩ := ih (fun i hi => h i (by omega))
  obtain ⟨x, hx⟩ := h n (by omega)
  refine ⟨l ++ [x], by simp [hl], fun i y hy => ?_⟩
  rcases Nat.lt_or_ge i n with g | g
  ·rw [List.getElem?_append_left (by omega)] at hy
   exact hq i y hy
  ·rw [List.getElem?_append_right (by omega)] at hy
   have : i - l.length = 0 := by
    have := (List.getElem?_eq_some_iff.1 hy).1
    simpa using this
   rw [this] at hy
   simp at hy
   subst hy
   obtain rfl : i = n := by omega
   exact hx
section
variable {H : Type} {enc : TypeId × Value → H} {w : World} {base : Nat} {held : Bool}
theorem SN {fuel : Nat} {v : Value} {x : DataW H × List MemPlace} (h : DataW.trod enc Tryz.prog w base (fun _ => true) held fuel 25 [v] = some x) :
  ∃ (A : Option Addr) (l : List S67) (c : Nat), v = .slice A l.length c ∧ l.length ≤ c ∧ Kd.C k67 w A l.length l := by
 rcases open_slice Tryz.underlying25 h with h0 | ⟨a, len, cap, m, n, D, Pl, hcs, hb, hl, hm, hmm, hx, hi⟩
 ·obtain ⟨h0, _⟩ := h0
  simp only [List.cons.injEq, and_true] at h0
  exact ⟨none, [], 0, h0, Nat.le_refl _, Kd.PK _ _⟩
 ·simp only [List.cons.injEq, and_true] at hcs
  subst hcs
  have hone : oneCellFields Tryz.prog (match Tryz.prog.underlying 67 with | some (.struct fs) => fs | _ => #[]) = true := by kernel_rfl
  have key : ∀ i, i < len → ∃ p : S67, ∀ j u, [Value.string p.f0, Value.string p.f1, Value.int .i64 p.f2][j]? = some u → w.cell? (a.add (i * 3 + j)) = some u := by
   intro i hi2
   obtain ⟨cs', hc, ht'⟩ := hi i (by rw [hmm]; simp; omega)
   rw [show Tryz.prog.cellsOf 67 = 3 by kernel_rfl] at hc
   obtain ⟨ys, n', hn', hy, hlen, hyl, hf⟩ := DataW.trod_struct Tryz.underlying67 ht'
   obtain ⟨_, hcl, hat⟩ := World.cells?_some hc
   match cs', hcl with
   | [c0, c1, c2], _ =>
    have e9 : Tryz.prog.cellsOf 9 = 1 := by kernel_rfl
    have e3 : Tryz.prog.cellsOf 3 = 1 := by kernel_rfl
    have h0 : DataW.trod enc Tryz.prog w base (fun _ => true) held n' 9 (List.take (Tryz.prog.cellsOf 9) (List.drop 0 [c0, c1, c2])) = ys[0]? := hf 0 _ rfl
    have h1 : DataW.trod enc Tryz.prog w base (fun _ => true) held n' 9 (List.take (Tryz.prog.cellsOf 9) (List.drop 1 [c0, c1, c2])) = ys[1]? := hf 1 _ rfl
    have h2 : DataW.trod enc Tryz.prog w base (fun _ => true) held n' 3 (List.take (Tryz.prog.cellsOf 3) (List.drop 2 [c0, c1, c2])) = ys[2]? := hf 2 _ rfl
    rw [e9] at h0 h1
    rw [e3] at h2
    have hy3 : ys.length = 3 := hyl
    rw [List.getElem?_eq_getElem (by omega)] at h0 h1 h2
    obtain ⟨s0, q0, _⟩ := DataW.trod_string Tryz.underlying9 h0
    obtain ⟨s1, q1, _⟩ := DataW.trod_string Tryz.underlying9 h1
    obtain ⟨s2, q2, _⟩ := DataW.trod_int Tryz.underlying3 h2
    obtain rfl : c0 = .string s0 := by simpa using q0
    obtain rfl : c1 = .string s1 := by simpa using q1
    obtain rfl : c2 = .int .i64 s2 := by simpa using q2
    refine ⟨⟨s0, s1, s2⟩, fun j u hu => ?_⟩
    have hj : j < 3 := (List.getElem?_eq_some_iff.1 hu).1
    have := hat j hj
    rw [← Go.Deep.add_add, this]
    exact hu
  obtain ⟨l, hll, hq⟩ := VQ len key
  refine ⟨some a, l, cap, by rw [hll], by omega, rfl, by unfold maxLen at hm; omega, fun _ => ⟨a, rfl, fun j p hj => ⟨_, rfl, qdo w p, ?_⟩⟩⟩
  exact hq j p hj
end
end Go.Proofs.U
namespace Go.Proofs.U
open Go.ChangeShapes Go.WideShapes Go.Deep Go.RowKit Go.Proofs.aA.aK Go.Proofs.aA.aW Go.Proofs.aA.aX
section
variable {H : Type} {enc : TypeId × Value → H} {w : World} {base : Nat} {held : Bool}
end
end Go.Proofs.U
namespace Go.Proofs.U
open Go.RowKit Go.Proofs.aA.aK Go.Proofs.aA.aW Go.Proofs.aA.aX
def qdp (c : Int) : Int := bits .xor .u32 (c / 2) (bits .and .u32 3988292384 (-bits .and .u32 c 1 % 4294967296))
def YT (c : Int) : Nat → Int
 | 0 => c
 | n + 1 => qdp (YT c n)
def VR (s : ByteArray) (c : Int) : Nat → Int
 | 0 => c
 | n + 1 => YT (bits .xor .u32 (VR s c n) (bt s (n : Int))) 8
def qax (c : Int) (s : ByteArray) : Int := VR s c s.size
theorem YU (c : Int) (n : Nat) : bits .xor .u32 (YT c n / 2) (bits .and .u32 3988292384 (-bits .and .u32 (YT c n) 1 % 4294967296)) = YT c (n + 1) := rfl
set_option maxHeartbeats 1600000 in
theorem VT (c : Int) (s : ByteArray) (w : World) (hs : s.size ≤ 9223372036854775807) :
  Calls Tryz.prog 122 #[.int .u32 c, .string s] w fun e w' => e = .returned (.int .u32 (qax c s)) ∧ Below w.heap.size w w' := by
 have kb := fun W => EN (P := Tryz.prog) 9 147 5 Tryz.underlying9 Tryz.underlying147 Tryz.underlying5 s W
 go_enter Tryz.func122, Tryz.ntmps122
 go_wp2
 have HR := aC.mk (EO w 5 s (by omega))
 have HB := aC.mk (EP (Below.refl w.heap.size w) (Nat.le_refl _) 5 s)
 go_loopw [0, 10] (fun v0 v10 wr => ∃ (i : Nat), v0 = .int .u32 (VR s c i) ∧ v10 = .int .i64 (i : Int) ∧ i ≤ s.size ∧ aC (iM wr .u8 (some ⟨w.heap.size, 0, none⟩) s.size (bytesOf s)) ∧ aC (Below w.heap.size w wr))
  (fun _ v10 _ => s.size - (intOf v10).toNat)
 case atStart => exact ⟨0, rfl, rfl, by omega, HR, HB⟩
 case round =>
  clear HR HB
  obtain ⟨i, rfl, rfl, hi, HR, HB⟩ := hrel
  by_cases hlt : i < s.size
  ·obtain ⟨ad, he, hc⟩ := HR.out.at_ (i : Int) (by omega) (by omega)
   injection he with he
   subst he
   rw [add_plain] at hc
   simp only [Int.toNat_natCast, zW] at hc
   have hbr := tZ s (i : Int)
   have h0 : (0 : Int) ≤ (i : Int) := by omega
   have h1 : (i : Int) < (s.size : Int) := by omega
   go_wp2
   go_loop [0, 18] (fun v0 v18 => ∃ (j : Nat), v0 = .int .u32 (YT (bits .xor .u32 (VR s c i) (bt s (i : Int))) j) ∧ v18 = .int .i64 (j : Int) ∧ j ≤ 8) (fun _ v18 => 8 - (intOf v18).toNat)
   case atStart => exact ⟨0, rfl, rfl, by omega⟩
   case round =>
    obtain ⟨j, rfl, rfl, hj⟩ := hrel
    by_cases hl2 : j < 8
    ·go_wp2
     exact ⟨⟨j + 1, by rw [YU], by congr 1, by omega⟩, by simp [intOf]; omega⟩
    ·obtain rfl : j = 8 := by omega
     go_wp2
     exact ⟨⟨i + 1, rfl, by congr 1, by omega, HR, HB⟩, by simp [intOf]; omega⟩
  ·obtain rfl : i = s.size := by omega
   go_wp2
   go_ret
   exact ⟨rfl, HB.out⟩
end Go.Proofs.U
namespace Go.Proofs.Sp
open Go.RowKit Go.Proofs.aA.aK Go.Proofs.aA.aW Go.Proofs.aA.aX
structure Res where
 holds : World → Prop
 foot : Nat → Prop
 lives : ∀ {W W' : World}, (∀ g, foot g → g < W.heap.size → W'.heap[g]? = W.heap[g]?) → holds W → holds W'
 lt : ∀ {W : World} {g : Nat}, holds W → foot g → g < W.heap.size
def box (g : Nat) (cs : List Value) (t : TypeId) : Res where
 holds W := W.heap[g]? = some (.cells cs.toArray t (0, 0))
 foot k := k = g
 lives h hb := (h g rfl (gJ hb)).trans hb
 lt h e := by rw [e]; exact gJ h
def thing (g : Nat) (o : Obj) : Res where
 holds W := W.heap[g]? = some o
 foot k := k = g
 lives h hb := (h g rfl (gJ hb)).trans hb
 lt h e := by rw [e]; exact gJ h
def row {α : Type} (d : Kd α) (e : TypeId) (v : Value) (l : List α) : Res where
 holds W := d.R e W 0 (fun k => v.ownBlock = some k) v l
 foot k := v.ownBlock = some k
 lives h hr := Kd.SE hr (fun k ho hlt => h k ho hlt)
 lt h e := by
  obtain ⟨inner, ho⟩ := Kd.qcR h
  exact qaj ho _ e
structure Upd (W W' : World) (S : Nat → Prop) : Prop where
 os : W'.os = W.os
 tape : W'.tape = W.tape
 output : W'.output = W.output
 size : W.heap.size ≤ W'.heap.size
 block : ∀ k, k < W.heap.size → ¬ S k → W'.heap[k]? = W.heap[k]?
theorem Upd.of_below {W W' : World} (h : Below W.heap.size W W') (S : Nat → Prop) : Upd W W' S := ⟨h.os, h.tape, h.output, h.size, fun k hk _ => h.block k hk⟩
theorem Upd.refl (W : World) (S : Nat → Prop) : Upd W W S := ⟨rfl, rfl, rfl, Nat.le_refl _, fun _ _ _ => rfl⟩
theorem Upd.trans {W W' W'' : World} {S S' : Nat → Prop} (h : Upd W W' S) (k : Upd W' W'' S') (hs : ∀ g, S' g → S g ∨ W.heap.size ≤ g) : Upd W W'' S :=
 ⟨k.os.trans h.os, k.tape.trans h.tape, k.output.trans h.output, Nat.le_trans h.size k.size, fun g hg hn => (k.block g (Nat.lt_of_lt_of_le hg h.size) (fun h2 => (hs g h2).elim hn (fun h3 => by omega))).trans (h.block g hg hn)⟩
theorem Upd.mono {W W' : World} {S S' : Nat → Prop} (h : Upd W W' S) (hs : ∀ g, S g → S' g) : Upd W W' S' := ⟨h.os, h.tape, h.output, h.size, fun k hk hn => h.block k hk (fun h2 => hn (hs k h2))⟩
theorem Upd.below {W W' : World} {S : Nat → Prop} (h : Upd W W' S) (hs : ∀ g, S g → W.heap.size ≤ g) : Below W.heap.size W W' := ⟨h.os, h.tape, h.output, h.size, fun k hk => h.block k hk (fun h2 => by have := hs k h2; omega)⟩
theorem Upd.setCell (W : World) (p : Addr) (v : Value) : Upd W (W.setCell p v) (fun k => k = p.block) := ⟨rfl, rfl, rfl, by simp [World.setCell], fun k _ hn => Below.heap_setCell W p v k hn⟩
theorem Upd.wC {W W' : World} {r : Option Nat} (h : W.grownBy W' r) : Upd W W' (fun k => r = some k) := ⟨h.os, h.tape, h.output, h.size, fun k hk hn => h.block k hk (fun e => hn e.symm)⟩
structure Sep (b W : World) (rs : List Res) : Prop where
 below : Below b.heap.size b W
 all : ∀ r, r ∈ rs → r.holds W
 base : ∀ r, r ∈ rs → ∀ g, r.foot g → b.heap.size ≤ g
 apart : rs.Pairwise (fun r s => ∀ g, r.foot g → ¬ s.foot g)
theorem Sep.start (b : World) : Sep b b [] := ⟨Below.refl _ _, by simp, by simp, .nil⟩
section
variable {b W W' : World} {rs rs' pre post : List Res} {r r' : Res}
theorem Sep.step (H : Sep b W rs) (h : Below W.heap.size W W') : Sep b W' rs :=
 ⟨G7 H.below H.below.size h, fun r hr => r.lives (fun g _ hl => h.block g hl) (H.all r hr), H.base, H.apart⟩
theorem Sep.drew (H : Sep b W rs) : Sep b W.drew rs := H.step (gI (Below.refl _ _))
theorem Sep.drewN (H : Sep b W rs) (n : Nat) : Sep b (W.drewN n) rs := H.step (aT (Below.refl _ _) n)
theorem Sep.news (H : Sep b W rs) (h : Below W.heap.size W W') (hn : ∀ r, r ∈ rs' → r.holds W' ∧ ∀ g, r.foot g → W.heap.size ≤ g) (ha : rs'.Pairwise (fun r s => ∀ g, r.foot g → ¬ s.foot g)) : Sep b W' (rs' ++ rs) := by
 have H' := H.step h
 refine ⟨H'.below, fun r hr => ?_, fun r hr g hg => ?_, List.pairwise_append.2 ⟨ha, H.apart, fun r hr s hs g hg hg' => ?_⟩⟩
 ·rcases List.mem_append.1 hr with hr | hr
  ·exact (hn r hr).1
  ·exact H'.all r hr
 ·rcases List.mem_append.1 hr with hr | hr
  ·exact Nat.le_trans H.below.size ((hn r hr).2 g hg)
  ·exact H.base r hr g hg
 ·have h1 := (hn r hr).2 g hg
  have h2 := s.lt (H.all s hs) hg'
  omega
theorem Sep.push (H : Sep b W rs) (h : Below W.heap.size W W') (r : Res) (hr : r.holds W') (hf : ∀ g, r.foot g → W.heap.size ≤ g) : Sep b W' (r :: rs) :=
 H.news (rs' := [r]) h (fun s hs => by rw [List.mem_singleton.1 hs]; exact ⟨hr, hf⟩) (List.pairwise_singleton _ _)
theorem Sep.alloc (H : Sep b W rs) (cs : List Value) (t : TypeId) : Sep b (W.alloc (.cells cs.toArray t (0, 0))) (box W.heap.size cs t :: rs) :=
 H.push (aQ (Below.refl _ _) _) _ (jV W _) (fun g hg => by rw [show g = W.heap.size from hg]; exact Nat.le_refl _)
theorem Sep.drop (H : Sep b W (pre ++ r :: post)) : Sep b W (pre ++ post) := by
 have hs : (pre ++ post).Sublist (pre ++ r :: post) := List.Sublist.append (List.Sublist.refl _) (List.sublist_cons_self _ _)
 exact ⟨H.below, fun s hm => H.all s (hs.subset hm), fun s hm => H.base s (hs.subset hm), H.apart.sublist hs⟩
theorem Sep.perm (H : Sep b W rs) (h : rs.Perm rs') : Sep b W rs' := ⟨H.below, fun s hm => H.all s (h.mem_iff.2 hm), fun s hm => H.base s (h.mem_iff.2 hm), (h.pairwise_iff (fun hxy g hg hg' => hxy g hg' hg)).1 H.apart⟩
theorem Sep.upd (H : Sep b W (pre ++ r :: post)) (h : Upd W W' r.foot) (hr : r'.holds W') (hf : ∀ g, r'.foot g → r.foot g ∨ W.heap.size ≤ g) : Sep b W' (pre ++ r' :: post) := by
 have hr0 : r ∈ pre ++ r :: post := by simp
 have hap := List.pairwise_append.1 H.apart
 have qec := List.pairwise_cons.1 hap.2.1
 have hother : ∀ s, s ∈ pre ++ post → (∀ g, r.foot g → ¬ s.foot g) ∧ s.holds W := by
  intro s hs
  rcases List.mem_append.1 hs with hs | hs
  ·exact ⟨fun g hg hg' => hap.2.2 s hs r (by simp) g hg' hg, H.all s (by simp [hs])⟩
  ·exact ⟨fun g hg hg' => qec.1 s hs g hg hg', H.all s (by simp [hs])⟩
 have hkeep : ∀ s, s ∈ pre ++ post → s.holds W' := fun s hs => s.lives (fun g hg hl => h.block g hl (fun h2 => (hother s hs).1 g h2 hg)) (hother s hs).2
 have hnew : ∀ s, s ∈ pre ++ post → ∀ g, r'.foot g → ¬ s.foot g := fun s hs g hg hg' => (hf g hg).elim (fun h2 => (hother s hs).1 g h2 hg') (fun h2 => by have := s.lt (hother s hs).2 hg'; omega)
 refine ⟨?_, ?_, ?_, List.pairwise_append.2 ⟨hap.1, List.pairwise_cons.2 ⟨fun s hs => hnew s (by simp [hs]), qec.2⟩, ?_⟩⟩
 ·exact H.below.trans ⟨h.os, h.tape, h.output, h.size, fun k hk => h.block k (Nat.lt_of_lt_of_le hk H.below.size) (fun h2 => by have := H.base r hr0 k h2; omega)⟩
 ·intro s hs
  rcases List.mem_append.1 hs with hs | hs
  ·exact hkeep s (by simp [hs])
  ·rcases List.mem_cons.1 hs with rfl | hs
   ·exact hr
   ·exact hkeep s (by simp [hs])
 ·intro s hs g hg
  rcases List.mem_append.1 hs with hs | hs
  ·exact H.base s (by simp [hs]) g hg
  ·rcases List.mem_cons.1 hs with rfl | hs
   ·rcases hf g hg with h2 | h2
    ·exact H.base r hr0 g h2
    ·exact Nat.le_trans H.below.size h2
   ·exact H.base s (by simp [hs]) g hg
 ·intro s hs t ht g hg hg'
  rcases List.mem_cons.1 ht with rfl | ht
  ·exact hnew s (by simp [hs]) g hg' hg
  ·exact hap.2.2 s hs t (by simp [ht]) g hg hg'
theorem Sep.set {g : Nat} {cs cs' : List Value} {t : TypeId} (H : Sep b W (pre ++ box g cs t :: post)) (j : Nat) (v : Value) (e : cs.set j v = cs') : Sep b (W.setCell ⟨g, j, none⟩ v) (pre ++ box g cs' t :: post) := by
 refine H.upd (r' := box g cs' t) (Upd.setCell W _ v) ?_ (fun k hk => .inl hk)
 have hb : W.heap[g]? = some (.cells cs.toArray t (0, 0)) := H.all (box g cs t) (by simp)
 show (W.setCell ⟨g, j, none⟩ v).heap[g]? = some (.cells cs'.toArray t (0, 0))
 exact fQ hb j v (by rw [← e]; simp)
theorem Sep.jF {g : Nat} {cs : List Value} {t : TypeId} (H : Sep b W rs) (hm : box g cs t ∈ rs) : W.heap[g]? = some (.cells cs.toArray t (0, 0)) := H.all _ hm
theorem Sep.cell {g : Nat} {cs : List Value} {t : TypeId} (H : Sep b W rs) (hm : box g cs t ∈ rs) (j : Nat) : W.cell? ⟨g, j, none⟩ = cs[j]? := by
 rw [aH (H.jF hm) j]; simp
theorem Sep.frozen {g : Nat} {cs : List Value} {t : TypeId} (H : Sep b W rs) (hm : box g cs t ∈ rs) (j : Nat) : W.frozen? ⟨g, j, none⟩ = false := aG (H.jF hm) j
theorem Sep.qay {α : Type} {d : Kd α} {e : TypeId} {v : Value} {l : List α} (H : Sep b W rs) (hm : row d e v l ∈ rs) : d.R e W 0 (fun k => v.ownBlock = some k) v l := H.all _ hm
theorem Sep.reads {α : Type} {d : Kd α} {e : TypeId} {A : Option Addr} {n c : Nat} {l : List α} (H : Sep b W rs) (hm : row d e (.slice A n c) l ∈ rs) : n = l.length ∧ l.length ≤ c ∧ d.C W A l.length l := by
 have h := Kd.qas (H.qay hm)
 obtain ⟨rfl, h2, h3⟩ := h
 exact ⟨rfl, h2, h3⟩
theorem Sep.came {α : Type} {d : Kd α} {A : Option Addr} {n : Nat} {l : List α} (H : Sep b W rs) (h : d.C b A n l) : d.C W A n l := Kd.fK h H.below
end
theorem aP {r : Res} {post : List Res} : r ∈ r :: post := by simp
theorem Sep.qbQ {b W W' : World} {r r' : Res} {post : List Res} (H : Sep b W (r :: post)) (h : Upd W W' r.foot) (hr : r'.holds W') (hf : ∀ g, r'.foot g → r.foot g ∨ W.heap.size ≤ g) : Sep b W' (r' :: post) := Sep.upd (pre := []) H h hr hf
theorem Sep.set0 {b W : World} {post : List Res} {g : Nat} {cs cs' : List Value} {t : TypeId} (H : Sep b W (box g cs t :: post)) (j : Nat) (v : Value) (e : cs.set j v = cs') : Sep b (W.setCell ⟨g, j, none⟩ v) (box g cs' t :: post) := Sep.set (pre := []) H j v e
theorem Sep.eG {b W : World} {r : Res} {post : List Res} (H : Sep b W (r :: post)) : Sep b W (post) := Sep.drop (pre := []) H
theorem mem1 {r0 : Res} {r : Res} {post : List Res} : r ∈ r0 :: r :: post := by simp
theorem Sep.set1 {b W : World} {r0 : Res} {post : List Res} {g : Nat} {cs cs' : List Value} {t : TypeId} (H : Sep b W (r0 :: box g cs t :: post)) (j : Nat) (v : Value) (e : cs.set j v = cs') : Sep b (W.setCell ⟨g, j, none⟩ v) (r0 :: box g cs' t :: post) := Sep.set (pre := [r0]) H j v e
theorem Sep.iW {b W : World} {r0 : Res} {r : Res} {post : List Res} (H : Sep b W (r0 :: r :: post)) : Sep b W (r :: r0 :: post) := H.perm (List.perm_middle (l₁ := [r0]) (a := r) (l₂ := post))
theorem Sep.drop1 {b W : World} {r0 : Res} {r : Res} {post : List Res} (H : Sep b W (r0 :: r :: post)) : Sep b W (r0 :: post) := Sep.drop (pre := [r0]) H
theorem mem2 {r0 r1 : Res} {r : Res} {post : List Res} : r ∈ r0 :: r1 :: r :: post := by simp
theorem Sep.set2 {b W : World} {r0 r1 : Res} {post : List Res} {g : Nat} {cs cs' : List Value} {t : TypeId} (H : Sep b W (r0 :: r1 :: box g cs t :: post)) (j : Nat) (v : Value) (e : cs.set j v = cs') : Sep b (W.setCell ⟨g, j, none⟩ v) (r0 :: r1 :: box g cs' t :: post) := Sep.set (pre := [r0, r1]) H j v e
theorem Sep.iY {b W : World} {r0 r1 : Res} {r : Res} {post : List Res} (H : Sep b W (r0 :: r1 :: r :: post)) : Sep b W (r :: r0 :: r1 :: post) := H.perm (List.perm_middle (l₁ := [r0, r1]) (a := r) (l₂ := post))
theorem Sep.drop2 {b W : World} {r0 r1 : Res} {r : Res} {post : List Res} (H : Sep b W (r0 :: r1 :: r :: post)) : Sep b W (r0 :: r1 :: post) := Sep.drop (pre := [r0, r1]) H
theorem mem3 {r0 r1 r2 : Res} {r : Res} {post : List Res} : r ∈ r0 :: r1 :: r2 :: r :: post := by simp
theorem Sep.dY {b W : World} {r0 r1 r2 : Res} {post : List Res} {g : Nat} {cs cs' : List Value} {t : TypeId} (H : Sep b W (r0 :: r1 :: r2 :: box g cs t :: post)) (j : Nat) (v : Value) (e : cs.set j v = cs') : Sep b (W.setCell ⟨g, j, none⟩ v) (r0 :: r1 :: r2 :: box g cs' t :: post) := Sep.set (pre := [r0, r1, r2]) H j v e
theorem Sep.oZ {b W : World} {r0 r1 r2 : Res} {r : Res} {post : List Res} (H : Sep b W (r0 :: r1 :: r2 :: r :: post)) : Sep b W (r :: r0 :: r1 :: r2 :: post) := H.perm (List.perm_middle (l₁ := [r0, r1, r2]) (a := r) (l₂ := post))
theorem Sep.iJ {b W : World} {r0 r1 r2 : Res} {r : Res} {post : List Res} (H : Sep b W (r0 :: r1 :: r2 :: r :: post)) : Sep b W (r0 :: r1 :: r2 :: post) := Sep.drop (pre := [r0, r1, r2]) H
theorem bT {r0 r1 r2 r3 : Res} {r : Res} {post : List Res} : r ∈ r0 :: r1 :: r2 :: r3 :: r :: post := by simp
theorem Sep.dS {b W : World} {r0 r1 r2 r3 : Res} {post : List Res} {g : Nat} {cs cs' : List Value} {t : TypeId} (H : Sep b W (r0 :: r1 :: r2 :: r3 :: box g cs t :: post)) (j : Nat) (v : Value) (e : cs.set j v = cs') : Sep b (W.setCell ⟨g, j, none⟩ v) (r0 :: r1 :: r2 :: r3 :: box g cs' t :: post) := Sep.set (pre := [r0, r1, r2, r3]) H j v e
theorem Sep.iR {b W : World} {r0 r1 r2 r3 : Res} {r : Res} {post : List Res} (H : Sep b W (r0 :: r1 :: r2 :: r3 :: r :: post)) : Sep b W (r :: r0 :: r1 :: r2 :: r3 :: post) := H.perm (List.perm_middle (l₁ := [r0, r1, r2, r3]) (a := r) (l₂ := post))
theorem Sep.lC {b W : World} {r0 r1 r2 r3 : Res} {r : Res} {post : List Res} (H : Sep b W (r0 :: r1 :: r2 :: r3 :: r :: post)) : Sep b W (r0 :: r1 :: r2 :: r3 :: post) := Sep.drop (pre := [r0, r1, r2, r3]) H
theorem dM {r0 r1 r2 r3 r4 : Res} {r : Res} {post : List Res} : r ∈ r0 :: r1 :: r2 :: r3 :: r4 :: r :: post := by simp
theorem Sep.gY {b W : World} {r0 r1 r2 r3 r4 : Res} {post : List Res} {g : Nat} {cs cs' : List Value} {t : TypeId} (H : Sep b W (r0 :: r1 :: r2 :: r3 :: r4 :: box g cs t :: post)) (j : Nat) (v : Value) (e : cs.set j v = cs') : Sep b (W.setCell ⟨g, j, none⟩ v) (r0 :: r1 :: r2 :: r3 :: r4 :: box g cs' t :: post) := Sep.set (pre := [r0, r1, r2, r3, r4]) H j v e
theorem Sep.rX {b W : World} {r0 r1 r2 r3 r4 : Res} {r : Res} {post : List Res} (H : Sep b W (r0 :: r1 :: r2 :: r3 :: r4 :: r :: post)) : Sep b W (r :: r0 :: r1 :: r2 :: r3 :: r4 :: post) := H.perm (List.perm_middle (l₁ := [r0, r1, r2, r3, r4]) (a := r) (l₂ := post))
theorem Sep.sQ {b W : World} {r0 r1 r2 r3 r4 : Res} {r : Res} {post : List Res} (H : Sep b W (r0 :: r1 :: r2 :: r3 :: r4 :: r :: post)) : Sep b W (r0 :: r1 :: r2 :: r3 :: r4 :: post) := Sep.drop (pre := [r0, r1, r2, r3, r4]) H
theorem jL {r0 r1 r2 r3 r4 r5 : Res} {r : Res} {post : List Res} : r ∈ r0 :: r1 :: r2 :: r3 :: r4 :: r5 :: r :: post := by simp
theorem Sep.kD {b W : World} {r0 r1 r2 r3 r4 r5 : Res} {post : List Res} {g : Nat} {cs cs' : List Value} {t : TypeId} (H : Sep b W (r0 :: r1 :: r2 :: r3 :: r4 :: r5 :: box g cs t :: post)) (j : Nat) (v : Value) (e : cs.set j v = cs') : Sep b (W.setCell ⟨g, j, none⟩ v) (r0 :: r1 :: r2 :: r3 :: r4 :: r5 :: box g cs' t :: post) := Sep.set (pre := [r0, r1, r2, r3, r4, r5]) H j v e
theorem Sep.pO {b W : World} {r0 r1 r2 r3 r4 r5 : Res} {r : Res} {post : List Res} (H : Sep b W (r0 :: r1 :: r2 :: r3 :: r4 :: r5 :: r :: post)) : Sep b W (r :: r0 :: r1 :: r2 :: r3 :: r4 :: r5 :: post) := H.perm (List.perm_middle (l₁ := [r0, r1, r2, r3, r4, r5]) (a := r) (l₂ := post))
theorem Sep.CP {b W : World} {r0 r1 r2 r3 r4 r5 : Res} {r : Res} {post : List Res} (H : Sep b W (r0 :: r1 :: r2 :: r3 :: r4 :: r5 :: r :: post)) : Sep b W (r0 :: r1 :: r2 :: r3 :: r4 :: r5 :: post) := Sep.drop (pre := [r0, r1, r2, r3, r4, r5]) H
theorem wJ {r0 r1 r2 r3 r4 r5 r6 : Res} {r : Res} {post : List Res} : r ∈ r0 :: r1 :: r2 :: r3 :: r4 :: r5 :: r6 :: r :: post := by simp
theorem Sep.yJ {b W : World} {r0 r1 r2 r3 r4 r5 r6 : Res} {post : List Res} {g : Nat} {cs cs' : List Value} {t : TypeId} (H : Sep b W (r0 :: r1 :: r2 :: r3 :: r4 :: r5 :: r6 :: box g cs t :: post)) (j : Nat) (v : Value) (e : cs.set j v = cs') : Sep b (W.setCell ⟨g, j, none⟩ v) (r0 :: r1 :: r2 :: r3 :: r4 :: r5 :: r6 :: box g cs' t :: post) := Sep.set (pre := [r0, r1, r2, r3, r4, r5, r6]) H j v e
theorem Sep.D5 {b W : World} {r0 r1 r2 r3 r4 r5 r6 : Res} {r : Res} {post : List Res} (H : Sep b W (r0 :: r1 :: r2 :: r3 :: r4 :: r5 :: r6 :: r :: post)) : Sep b W (r :: r0 :: r1 :: r2 :: r3 :: r4 :: r5 :: r6 :: post) := H.perm (List.perm_middle (l₁ := [r0, r1, r2, r3, r4, r5, r6]) (a := r) (l₂ := post))
theorem Sep.qcT {b W : World} {r0 r1 r2 r3 r4 r5 r6 : Res} {r : Res} {post : List Res} (H : Sep b W (r0 :: r1 :: r2 :: r3 :: r4 :: r5 :: r6 :: r :: post)) : Sep b W (r0 :: r1 :: r2 :: r3 :: r4 :: r5 :: r6 :: post) := Sep.drop (pre := [r0, r1, r2, r3, r4, r5, r6]) H
theorem YV {r0 r1 r2 r3 r4 r5 r6 r7 : Res} {r : Res} {post : List Res} : r ∈ r0 :: r1 :: r2 :: r3 :: r4 :: r5 :: r6 :: r7 :: r :: post := by simp
theorem Sep.qcU {b W : World} {r0 r1 r2 r3 r4 r5 r6 r7 : Res} {r : Res} {post : List Res} (H : Sep b W (r0 :: r1 :: r2 :: r3 :: r4 :: r5 :: r6 :: r7 :: r :: post)) : Sep b W (r0 :: r1 :: r2 :: r3 :: r4 :: r5 :: r6 :: r7 :: post) := Sep.drop (pre := [r0, r1, r2, r3, r4, r5, r6, r7]) H
section
variable {P : Program} {ops : Array Oper} {rest : List Oper} {o : Oper} {a : Act} {Q : Exit → Act → World → Prop} {b W : World} {rs : List Res}
theorem bK (hgd : o.guard = none) (H : aC (Sep b W rs)) {cs : List Value} {t : TypeId}
  (hrun : (execOp a.eval o).run P W = .ok (.value (.pointer (some ⟨W.heap.size, 0, none⟩))) (W.alloc (.cells cs.toArray t (0, 0))))
  (h : ∀ g W', aC (Sep b W' (box g cs t :: rs)) → wpList P ops Q rest (a.put o.dst (.pointer (some ⟨g, 0, none⟩))) W') : wpList P ops Q (o :: rest) a W :=
 Kd.uF hgd hrun (h _ _ ⟨H.out.alloc cs t⟩)
theorem bH {W1 : World} {rs1 : List Res} (hgd : o.guard = none) {t : TypeId} {p : Tmp} {v : Operand} (_ho : o.op = .store t (.tmp p) v) (hN : o.dst = none) (hrun : (execOp a.eval o).run P W = .ok .skip W1) (H1 : Sep b W1 rs1)
  (h : ∀ W', aC (Sep b W' rs1) → wpList P ops Q rest a W') : wpList P ops Q (o :: rest) a W :=
 PL hgd _ho hN hrun fun W' e => h W' ⟨by rw [e]; exact H1⟩
theorem qI {K : Act → World → Prop} {W1 : World} (H1 : Sep b W1 rs) (h : ∀ W', aC (Sep b W' rs) → K a W') : K a W1 := h W1 ⟨H1⟩
theorem IV {W1 : World} {c : Code} (H1 : Sep b W1 rs) (h : ∀ W', aC (Sep b W' rs) → Code.wp P c Q a W') : Code.wp P c Q a W1 := h W1 ⟨H1⟩
end
section
variable {α : Type} {d : Kd α} {b W W' : World} {rs : List Res} {e base : Nat} {ok : Nat → Prop} {v : Value} {l : List α}
theorem Sep.jQ (H : Sep b W rs) (hb : Below W.heap.size W W') (ho : d.R e W' W.heap.size ok v l) (hd : ∀ {ok1 ok2 : Nat → Prop} {x : α} {cs : List Value}, d.M W' 0 ok1 x cs → d.M W' 0 ok2 x cs) : Sep b W' (row d e v l :: rs) := by
 refine H.push hb (row d e v l) (Kd.IQ hd (Kd.sO ho (Nat.zero_le _)) (fun k hk _ => hk)) (fun g hg => ?_)
 obtain ⟨inner, hown⟩ := Kd.qcR ho
 exact own_base hown g hg
theorem Sep.eU (H : Sep b W rs) : Sep b W (row d e (.slice none 0 0) [] :: rs) :=
 H.push (Below.refl _ _) _ (Kd.CB _ _ _ _ _) (fun g hg => by simp [row, Value.ownBlock] at hg)
end
section
variable {P : Program} {ops : Array Oper} {rest : List Oper} {o : Oper} {a : Act} {Q : Exit → Act → World → Prop} {b W : World} {α : Type}
def Flat (d : Kd α) : Prop := ∀ {W : World} {ok1 ok2 : Nat → Prop} {x : α} {cs : List Value}, d.M W 0 ok1 x cs → d.M W 0 ok2 x cs
theorem MS (d : Kd α) (hd : Flat d) (pre post : List Res) (hgd : o.guard = none) (s x : Operand) (t e : TypeId) (z : Value) (bytes : Nat)
  (ho : o.op = .call { callee := .builtin .append, args := #[s, x], argTypes := #[t, t] })
  (ht : P.underlying t = some (.slice e)) (hinfo : (P.info? e).map (fun i => (i.zero, i.size, i.bytes)) = some (some z, d.sz, bytes)) (hz : z.cells.size = d.sz) (hs0 : 0 < d.sz) (hb0 : 0 < bytes)
  (v : Value) (xs : List α) (p : α) (cs : List Value) (hs : a.eval s = v) (hx : a.eval x = .slice (some ⟨W.heap.size, 0, none⟩) 1 1) (hp : d.M W 0 (fun _ => False) p cs)
  (H : aC (Sep b W (pre ++ row d e v xs :: post))) (hl : (xs.length + 1) * bytes ≤ 140737488355328)
  (h : ∀ A1 c1 W', aC (Sep b W' (pre ++ row d e (.slice A1 (xs ++ [p]).length c1) (xs ++ [p]) :: post)) → wpList P ops Q rest (a.put o.dst (.slice A1 (xs ++ [p]).length c1)) W') :
  wpList P ops Q (o :: rest) a (W.alloc (.cells cs.toArray e)) := by
 have hr : d.R e W 0 (fun k => v.ownBlock = some k) v xs := H.out.all (row d e v xs) (by simp)
 refine Kd.qar d (w0 := W) 0 hgd s x t e z bytes ho ht hinfo hz hs0 hb0 v xs p cs (fun k => v.ownBlock = some k ∨ W.heap.size ≤ k) (fun _ => False) hs hx hp (fun _ hk => hk.elim) (fun k hk => .inr hk)
  (Kd.tJ hr (fun k hk => .inl hk)) (Below.refl _ _) (Nat.zero_le _) hl ?_
 intro v1 w1 ho1 _ hg hat
 obtain ⟨A1, c1, rfl⟩ := Kd.dZ ho1
 refine h A1 c1 w1 ⟨H.out.upd (r' := row d e (.slice A1 (xs ++ [p]).length c1) (xs ++ [p])) (Upd.wC hg) (Kd.IQ hd ho1 (fun k hk _ => hk)) (fun k hk => ?_)⟩
 have hk' : (Value.slice A1 (xs ++ [p]).length c1).ownBlock = some k := hk
 rcases hat with e1 | ⟨b1, e1, hb1⟩
 ·exact .inl (show v.ownBlock = some k by rw [← e1]; exact hk')
 ·rw [e1] at hk'
  injection hk' with hk'
  exact .inr (by omega)
theorem PU (k : IntKind) : Flat (Kd.int k) := fun h => h
end
theorem PV {P : Program} {ops : Array Oper} {rest : List Oper} {o : Oper} {a : Act} {Q : Exit → Act → World → Prop} {b W : World} {α : Type} {post : List Res} (d : Kd α) (hd : Flat d) (hgd : o.guard = none) (s x : Operand) (t e : TypeId) (z : Value) (bytes : Nat)
 (ho : o.op = .call { callee := .builtin .append, args := #[s, x], argTypes := #[t, t] })
 (ht : P.underlying t = some (.slice e)) (hinfo : (P.info? e).map (fun i => (i.zero, i.size, i.bytes)) = some (some z, d.sz, bytes)) (hz : z.cells.size = d.sz) (hs0 : 0 < d.sz) (hb0 : 0 < bytes)
 (v : Value) (xs : List α) (p : α) (cs : List Value) (hs : a.eval s = v) (hx : a.eval x = .slice (some ⟨W.heap.size, 0, none⟩) 1 1) (hp : d.M W 0 (fun _ => False) p cs)
 (H : aC (Sep b W (row d e v xs :: post))) (hl : (xs.length + 1) * bytes ≤ 140737488355328)
 (h : ∀ A1 c1 W', aC (Sep b W' (row d e (.slice A1 (xs ++ [p]).length c1) (xs ++ [p]) :: post)) → wpList P ops Q rest (a.put o.dst (.slice A1 (xs ++ [p]).length c1)) W') :
 wpList P ops Q (o :: rest) a (W.alloc (.cells cs.toArray e)) := MS d hd [] post hgd s x t e z bytes ho ht hinfo hz hs0 hb0 v xs p cs hs hx hp H hl h
theorem qaz {P : Program} {ops : Array Oper} {rest : List Oper} {o : Oper} {a : Act} {Q : Exit → Act → World → Prop} {b W : World} {α : Type} {r0 r1 : Res} {post : List Res} (d : Kd α) (hd : Flat d) (hgd : o.guard = none) (s x : Operand) (t e : TypeId) (z : Value) (bytes : Nat)
 (ho : o.op = .call { callee := .builtin .append, args := #[s, x], argTypes := #[t, t] })
 (ht : P.underlying t = some (.slice e)) (hinfo : (P.info? e).map (fun i => (i.zero, i.size, i.bytes)) = some (some z, d.sz, bytes)) (hz : z.cells.size = d.sz) (hs0 : 0 < d.sz) (hb0 : 0 < bytes)
 (v : Value) (xs : List α) (p : α) (cs : List Value) (hs : a.eval s = v) (hx : a.eval x = .slice (some ⟨W.heap.size, 0, none⟩) 1 1) (hp : d.M W 0 (fun _ => False) p cs)
 (H : aC (Sep b W (r0 :: r1 :: row d e v xs :: post))) (hl : (xs.length + 1) * bytes ≤ 140737488355328)
 (h : ∀ A1 c1 W', aC (Sep b W' (r0 :: r1 :: row d e (.slice A1 (xs ++ [p]).length c1) (xs ++ [p]) :: post)) → wpList P ops Q rest (a.put o.dst (.slice A1 (xs ++ [p]).length c1)) W') :
 wpList P ops Q (o :: rest) a (W.alloc (.cells cs.toArray e)) := MS d hd [r0, r1] post hgd s x t e z bytes ho ht hinfo hz hs0 hb0 v xs p cs hs hx hp H hl h
theorem SQ (W : World) (g : Nat) (cs : Array Value) : Upd W (W.setRow g cs) (fun k => k = g) :=
 ⟨rfl, rfl, rfl, by simp [World.setRow], fun k _ hn => setRow_other W g k cs (fun e => hn (by omega))⟩
theorem SS {W : World} {g : Nat} {cs : List Value} {t : TypeId} (h : W.heap[g]? = some (.cells cs.toArray t (0, 0))) (cs' : List Value) : (W.setRow g cs'.toArray).heap[g]? = some (.cells cs'.toArray t (0, 0)) := setRow_heap W g cs.toArray cs'.toArray t (0, 0) h
theorem Sep.setRow {b W : World} {pre post : List Res} {g : Nat} {cs : List Value} {t : TypeId} (H : Sep b W (pre ++ box g cs t :: post)) (cs' : List Value) : Sep b (W.setRow g cs'.toArray) (pre ++ box g cs' t :: post) :=
 H.upd (r' := box g cs' t) (SQ W g _) (SS (H.all (box g cs t) (by simp)) cs') (fun k hk => .inl hk)
theorem qaA {W : World} {g : Nat} {xs : List Int} {t : TypeId} {k : IntKind} (h : W.heap[g]? = some (.cells (nums k xs).toArray t (0, 0))) (hx : xs.length ≤ 9223372036854775807) : (Kd.int k).C W (some ⟨g, 0, none⟩) xs.length xs := by
 refine ⟨rfl, hx, fun _ => ⟨_, rfl, fun j p hj => ⟨[.int k p], rfl, rfl, fun i u hu => ?_⟩⟩⟩
 have hi : i = 0 := by
  have := (List.getElem?_eq_some_iff.1 hu).1
  simpa using this
 subst hi
 simp only [List.getElem?_cons_zero, Option.some.injEq] at hu
 subst hu
 show W.cell? ((⟨g, 0, none⟩ : Addr).add (j * 1 + 0)) = _
 rw [add_plain, aH h]
 simp [nums, hj]
section
variable {P : Program} {ops : Array Oper} {rest : List Oper} {o : Oper} {a : Act} {Q : Exit → Act → World → Prop} {b W : World} {rs : List Res}
theorem qaB (hgd : o.guard = none) {t e : TypeId} {x y : Operand} (ho : o.op = .makeSlice t x y) (z : Value) (bytes : Nat) (ht : P.underlying t = some (.slice e)) (hinfo : (P.info? e).map (fun i => (i.zero, i.size, i.bytes)) = some (some z, 1, bytes)) (hz : z.cells = #[z]) (hb0 : 0 < bytes)
  (n : Nat) (hx : a.eval x = .int .i64 (n : Int)) (hy : a.eval y = .int .i64 (n : Int)) (hn : n * bytes ≤ 281474976710656) (H : aC (Sep b W rs))
  (h : ∀ g W', aC (Sep b W' (box g (List.replicate n z) e :: rs)) → wpList P ops Q rest (a.put o.dst (.slice (some ⟨g, 0, none⟩) n n)) W') : wpList P ops Q (o :: rest) a W := by
 have hrun := IB (P := P) t e z bytes ht hinfo hz hb0 (n : Int) (by omega) (by simpa using hn) W
 have hl : madeCells #[z] n = (List.replicate n z).toArray := by
  apply Array.ext'
  apply List.ext_getElem
  ·simp [madeCells]
  ·intro i h1 h2
   simp [madeCells, Nat.mod_one]
 refine wpList_plain hgd fun K hK => ?_
 unfold Oper.wp
 simp only [execOp, ho, hx, hy, Sem.run_bind, hrun, Result.andThen_ok, Sem.run_pure, Int.toNat_natCast]
 rw [hl]
 exact hK _ _ (h _ _ ⟨H.out.alloc _ e⟩)
theorem PW (pre post : List Res) (hgd : o.guard = none) (d s : Operand) (dT sT : TypeId) (ho : o.op = .call { callee := .builtin .copy, args := #[d, s], argTypes := #[dT, sT] }) (elem : TypeId) (hu : P.underlying dT = some (.slice elem)) (hsz : (P.info? elem).map (·.size) = some 1)
  (g off dLen dCap : Nat) (ad : Addr) (sLen sCap : Nat) (hd : a.eval d = .slice (some ⟨g, off, none⟩) dLen dCap) (hs : a.eval s = .slice (some ad) sLen sCap)
  (cur : List Value) (t : TypeId) (cs : List Value) (H : aC (Sep b W (pre ++ box g cur t :: post))) (hn : cs.length = Nat.min sLen dLen)
  (hsrc : ∀ j v, cs[j]? = some v → W.cell? (ad.add j) = some v) (hfit : off + cs.length ≤ cur.length) (h1 : ∀ v ∈ cs, v.oneCell' = true)
  (h : ∀ W', aC (Sep b W' (pre ++ box g (cur.take off ++ (cs ++ cur.drop (off + cs.length))) t :: post)) → wpList P ops Q rest (a.put o.dst (goInt cs.length)) W') : wpList P ops Q (o :: rest) a W :=
 wpList_copy_own hgd d s dT sT ho elem hu hsz g off dLen dCap ad sLen sCap hd hs cur.toArray t (H.out.all (box g cur t) (by simp)) cs hn hsrc (by simpa using hfit) h1 (h _ ⟨H.out.setRow _⟩)
theorem YW (pre post : List Res) (hgd : o.guard = none) (d s : Operand) (dT sT : TypeId) (ho : o.op = .call { callee := .builtin .copy, args := #[d, s], argTypes := #[dT, sT] }) (elem : TypeId) (hu : P.underlying dT = some (.slice elem)) (hsz : (P.info? elem).map (·.size) = some 1)
  (g off dLen dCap : Nat) (x : ByteArray) (hd : a.eval d = .slice (some ⟨g, off, none⟩) dLen dCap) (hs : a.eval s = .string x)
  (cur : List Value) (t : TypeId) (H : aC (Sep b W (pre ++ box g cur t :: post))) (hle : x.size ≤ dLen) (hfit : off + x.size ≤ cur.length)
  (h : ∀ W', aC (Sep b W' (pre ++ box g (cur.take off ++ (Lib.byteCells x.data.toList ++ cur.drop (off + x.size))) t :: post)) → wpList P ops Q rest (a.put o.dst (goInt x.size)) W') : wpList P ops Q (o :: rest) a W := by
 refine wpList_plain hgd fun K hK => ?_
 have hrun := Lib.run_copy_row_string (P := P) W dT sT o.type elem g off dLen dCap x cur.toArray t hu hsz (H.out.all (box g cur t) (by simp)) hle (by simpa using hfit)
 unfold Oper.wp
 simp [execOp, ho, resolve, invoke, builtin, hd, hs, hrun, Result.andThen]
 exact hK _ _ (h _ ⟨by have := H.out.setRow (cur.take off ++ (Lib.byteCells x.data.toList ++ cur.drop (off + x.size))); simpa using this⟩)
end
end Go.Proofs.Sp
namespace Go.Proofs.U
open Go.RowKit Go.Proofs.aA.aK Go.Proofs.aA.aW Go.Proofs.aA.aX Go.Proofs.Sp
def byteAt (n : Int) (i : Nat) : Int := n / 2 ^ (8 * i) % 256
def qW (n : Int) (k : Nat) : List Int := (List.range k).map (byteAt n)
theorem KX (n : Int) (k : Nat) : qW n (k + 1) = qW n k ++ [byteAt n k] := by simp [qW, List.range_succ]
set_option maxHeartbeats 1600000 in
theorem MV (b0 w : World) (rs : List Res) (v : Value) (xs : List Int) (n : Int) (many : Nat) (hm : many ≤ 8) (hn : 0 ≤ n) (hn2 : n < 18446744073709551616) (hx : xs.length ≤ 1000000)
  (H : aC (Sep b0 w (row (Kd.int .u8) 5 v xs :: rs))) :
  Calls Tryz.prog 121 #[v, .int .u64 n, .int .i64 (many : Int)] w fun e w' => ∃ A c, e = .returned (.slice A (xs ++ qW n many).length c) ∧ aC (Sep b0 w' (row (Kd.int .u8) 5 (.slice A (xs ++ qW n many).length c) (xs ++ qW n many) :: rs)) := by
 obtain ⟨A0, c0, rfl⟩ := Kd.dZ (H.out.qay aP)
 go_enter Tryz.func121, Tryz.ntmps121
 go_wp2
 go_loopw [0, 9] (fun v0 v9 wr => ∃ (i : Nat) (A : Option Addr) (c : Nat) (ys : List Int), v0 = .slice A ys.length c ∧ v9 = .int .i64 (i : Int) ∧ i ≤ many ∧ ys.length ≤ 1000008 ∧ aC (ys = xs ++ qW n i) ∧ aC (Sep b0 wr (row (Kd.int .u8) 5 (.slice A ys.length c) ys :: rs)))
  (fun _ v9 _ => many - (intOf v9).toNat)
 case atStart => exact ⟨0, A0, c0, xs, rfl, rfl, by omega, by omega, ⟨by simp [qW]⟩, H⟩
 case round =>
  clear H
  obtain ⟨i, A, c, ys, rfl, rfl, hi, hy, HY, H⟩ := hrel
  by_cases hlt : i < many
  ·have hy2 : ys.length < 1000008 := by rw [HY.out]; simp [qW]; omega
   go_wp2_with (first
 |((with_reducible refine jC (b := .append) (xs := #[.tmp 12, .tmp 18]) rfl ?_); at_builtin;
   refine PV (Kd.int .u8) (PU _) rfl (.tmp 12) (.tmp 18) 147 5 (.int .u8 0) 1 rfl Tryz.underlying147 info5 rfl (by decide) (by omega) _ ys (n / 2 ^ (8 * i) % 256) [.int .u8 (n / 2 ^ (8 * i) % 256)] rfl rfl ?hp H ?hl ?_;
   (case hp => rfl); (case hl => omega);
   intro A1 c1 w1 H1; clear H; have H := H1; clear H1;
   simp only [Act.put, zA, zZ, zS])
 |fail)
   refine ⟨⟨i + 1, A1, c1, _, rfl, by congr 1, by omega, ?_, ⟨by rw [HY.out, KX, List.append_assoc]; rfl⟩, H⟩, by simp [intOf]; omega⟩
   rw [List.length_append, List.length_singleton]
   omega
  ·obtain rfl : i = many := by omega
   go_wp2
   go_ret
   have e := HY.out
   subst e
   exact ⟨A, c, rfl, H⟩
def qaC (seq : Int) (d : ByteArray) : List Int := qW (d.size : Int) 4 ++ qW seq 8
def qdq (seq : Int) (d : ByteArray) : Int := bits .xor .u32 IntKind.u32.max (qax (qax 4294967295 (strOfNums (qaC seq d))) d)
theorem YX {n : Int} (h0 : 0 ≤ n) (h1 : n ≤ 4294967295) : IntKind.u64.wrap n = n := by
 simp [IntKind.wrap, IntKind.signed, IntKind.bits]
 omega
theorem YZ {W : World} {k : IntKind} {A : Option Addr} {n : Nat} {xs : List Int} (h : (Kd.int k).C W A n xs) (hn : 0 < n) : ∃ ad, A = some ad ∧ ∀ j v, (nums k xs)[j]? = some v → W.cell? (ad.add j) = some v := by
 obtain ⟨ad, e, hc⟩ := h.2.2 hn
 refine ⟨ad, e, fun j v hv => ?_⟩
 simp only [nums, List.getElem?_map, Option.map_eq_some_iff] at hv
 obtain ⟨p, hp, rfl⟩ := hv
 obtain ⟨cs, _, hk, hcell⟩ := hc j p hp
 have hk' : cs = [.int k p] := hk
 subst hk'
 have := hcell 0 _ rfl
 simpa [Kd.int, Kd.scalar] using this
theorem PX (op : BinOp) (x y : Int) : 0 ≤ bits op .u32 x y ∧ bits op .u32 x y ≤ 4294967295 := by
 have h := wf_bits op .u32 x y
 simp only [Lit.wf, Bool.and_eq_true, decide_eq_true_eq] at h
 exact ⟨h.1, h.2⟩
def qaD (seq : Int) (d : ByteArray) : List Int := qaC seq d ++ qW (qdq seq d) 4 ++ bytesOf d
def fV (seq : Int) (d : ByteArray) : ByteArray := strOfNums (qaD seq d)
theorem PY (d : ByteArray) : Lib.byteCells d.data.toList = nums .u8 (bytesOf d) := by simp [Lib.byteCells, nums, bytesOf]
set_option maxHeartbeats 1600000 in
theorem KY (seq : Int) (d : ByteArray) (w : World) (hd : d.size ≤ 65536) (h0 : 0 ≤ seq) (h1 : seq < 18446744073709551616) :
  Calls Tryz.prog 78 #[.int .u64 seq, .string d] w fun e w' => e = .returned (.string (fV seq d)) ∧ Below w.heap.size w w' := by
 have H := aC.mk (Sep.eU (d := Kd.int .u8) (e := 5) (Sep.start w))
 have hsz : (d.size : Int) < 18446744073709551616 := by omega
 have hd2 : (0 : Int) ≤ (d.size : Int) := by omega
 go_enter Tryz.func78, Tryz.ntmps78
 go_wp2_with fail
 refine ((MV w _ [] (.slice none 0 0) [] (d.size : Int) 4 (by omega) hd2 hsz (by simp) H).mono ?_)
 rintro e w1 ⟨A1, c1, rfl, H1⟩
 clear H
 rw [List.nil_append] at H1
 obtain ⟨l1, hl1⟩ : ∃ l1, l1 = qW (d.size : Int) 4 := ⟨_, rfl⟩
 rw [← hl1] at H1 ⊢
 have HL1 := aC.mk hl1
 have hn1 : l1.length = 4 := by rw [hl1]; simp [qW]
 have HN1 := aC.mk hn1
 clear hl1 hn1
 go_wp2_with fail
 refine ((MV w _ [] _ l1 seq 8 (by omega) h0 h1 (by rw [HN1.out]; omega) H1).mono ?_)
 rintro e w2 ⟨A2, c2, rfl, H2⟩
 clear H1
 obtain ⟨l2, hl2⟩ : ∃ l2, l2 = l1 ++ qW seq 8 := ⟨_, rfl⟩
 rw [← hl2] at H2 ⊢
 have HL2 := aC.mk hl2
 have HN2 := aC.mk (show l2.length = 12 by rw [hl2, List.length_append, HN1.out]; simp [qW])
 clear hl2
 clear h1 hsz h0
 have hs2 := Kd.wE (P := Tryz.prog) (src := 147) (dst := 9) (e := 5) (c := c2) Tryz.underlying147 Tryz.underlying5 Tryz.underlying9 (H2.out.reads aP).2.2
 go_wp2_with fail
 clear hs2
 refine ((VT 4294967295 (strOfNums l2) _ (by rw [strOfNums_size, HN2.out]; omega)).mono ?_)
 rintro e w3 ⟨rfl, hb_⟩
 have H := aC.mk (H2.out.step hb_)
 clear H2 hb_
 go_wp2_with fail
 refine ((VT _ d _ (by omega)).mono ?_)
 rintro e w4 ⟨rfl, hb_⟩
 have n_ := aC.mk (H.out.step hb_)
 clear H hb_
 have H := n_
 clear n_
 obtain ⟨cc, hcc⟩ : ∃ cc, cc = qax (qax 4294967295 (strOfNums l2)) d := ⟨_, rfl⟩
 rw [← hcc]
 have HCC := aC.mk hcc
 clear hcc
 go_wp2_with (first
 |((with_reducible refine aU (N := 23) rfl ?_);
   refine qaB rfl rfl (.int .u8 0) 1 Tryz.underlying147 info5 rfl (by decide) (16 + d.size) ?hx ?hy (by omega) H ?_;
   (case hx => exact congrArg (Value.int .i64) (show (16 + (d.size : Int)) = ((16 + d.size : Nat) : Int) by omega));
   (case hy => exact congrArg (Value.int .i64) (show (16 + (d.size : Int)) = ((16 + d.size : Nat) : Int) by omega));
   intro g w5 H1; clear H; have H := H1; clear H1;
   simp only [Act.put, zA, zZ, zS])
 |fail)
 obtain ⟨sm, hsm⟩ : ∃ sm, sm = bits .xor .u32 IntKind.u32.max cc := ⟨_, rfl⟩
 have hs1 : 0 ≤ sm ∧ sm ≤ 4294967295 := by rw [hsm]; exact PX _ _ _
 obtain ⟨hs0, hs1⟩ := hs1
 rw [← hsm]
 have HSM := aC.mk hsm
 clear hsm
 rw [YX hs0 hs1]
 refine ((MV w _ _ _ l2 sm 4 (by omega) hs0 (by omega) (by rw [HN2.out]; omega) ⟨Sep.iW H.out⟩).mono ?_)
 rintro e w6 ⟨A3, c3, rfl, H3⟩
 clear H
 obtain ⟨l3, hl3⟩ : ∃ l3, l3 = l2 ++ qW sm 4 := ⟨_, rfl⟩
 rw [← hl3] at H3 ⊢
 have HL3 := aC.mk hl3
 have hn3 : l3.length = 16 := by rw [hl3, List.length_append, HN2.out]; simp [qW]
 clear hl3
 obtain ⟨ad, rfl, hsrc⟩ := YZ (H3.out.reads aP).2.2 (by omega)
 have qee := aC.mk hsrc
 have HN3 := aC.mk hn3
 clear hsrc hn3
 obtain ⟨l4, hl4⟩ : ∃ l4, l4 = l3 ++ List.replicate d.size (0 : Int) := ⟨_, rfl⟩
 have E1 : aC (List.take 0 (List.replicate (16 + d.size) (Value.int .u8 0)) ++ (nums .u8 l3 ++ List.drop (0 + (nums .u8 l3).length) (List.replicate (16 + d.size) (Value.int .u8 0))) = nums .u8 l4) := ⟨by
  rw [hl4, nums_append, nums_length, HN3.out, List.take_zero, List.nil_append, List.drop_replicate]
  congr 1
  rw [show 16 + d.size - (0 + 16) = d.size by omega]
  simp [nums]⟩
 have E2 : aC (l4.length = 16 + d.size) := ⟨by rw [hl4, List.length_append, HN3.out, List.length_replicate]⟩
 obtain ⟨l5, hl5⟩ : ∃ l5, l5 = l3 ++ bytesOf d := ⟨_, rfl⟩
 have E3 : aC ((nums .u8 l4).take 16 ++ (Lib.byteCells d.data.toList ++ (nums .u8 l4).drop (16 + d.size)) = nums .u8 l5) := ⟨by
  rw [List.drop_of_length_le (by rw [nums_length, E2.out]; omega), List.append_nil, PY, hl5, nums_append, hl4, nums_append, List.take_append_of_le_length (by rw [nums_length, HN3.out]; omega), List.take_of_length_le (by rw [nums_length, HN3.out]; omega)]⟩
 have E4 : aC (l5.length = 16 + d.size) := ⟨by rw [hl5, List.length_append, HN3.out, bytesOf_length]⟩
 have E5 : aC (fV seq d = strOfNums l5) := ⟨by
  rw [hl5, HL3.out, HL2.out, HL1.out, HSM.out, HCC.out, HL2.out, HL1.out]
  rfl⟩
 have hz : (Tryz.prog.info? 5).map (·.size) = some 1 := by kernel_rfl
 by_cases hde : d = ByteArray.empty
 ·have h0 : d.size = 0 := by rw [hde]; rfl
  have qik : (d = ByteArray.empty) = True := eq_true hde
  have hce := fun dd dl dc w => Lib.run_copy_empty_string (P := Tryz.prog) w 147 9 3 5 dd dl dc d Tryz.underlying147 (by kernel_rfl) h0
  have E6 : aC (l4 = l5) := ⟨by rw [hl4, hl5, h0]; simp [show bytesOf d = [] by rw [hde]; rfl]⟩
  clear hl4 hl5
  have HDE := aC.mk hde
  have H0 := aC.mk h0
  clear hde h0
  go_wp2_with (first
 |((with_reducible refine jC (b := .copy) (xs := #[.tmp 24, .tmp 28]) rfl ?_);
   refine PW [row (Kd.int .u8) 5 (.slice (some ad) l3.length c3) l3] [] rfl (.tmp 24) (.tmp 28) 147 147 rfl 5 Tryz.underlying147 hz g 0 (16 + d.size) (16 + d.size) ad l3.length c3 rfl rfl _ 5 (nums .u8 l3) H3 ?hn qee.out ?hfit ?h1 ?_;
   (case hn => rw [nums_length, HN3.out]; simp only [Nat.min_def]; split <;> omega);
   (case hfit => rw [nums_length, HN3.out, List.length_replicate]; omega);
   (case h1 => intro v hv; simp only [nums, List.mem_map] at hv; obtain ⟨q, _, rfl⟩ := hv; rfl);
   intro w7 H4; rw [E1.out] at H4;
   have H5 : aC (Sep w w7 [row (Kd.int .u8) 5 (.slice (some ad) l3.length c3) l3, box g (nums .u8 l4) 5]) := H4; clear H4;
   have H7 : aC (Sep w w7 [row (Kd.int .u8) 5 (.slice (some ad) l3.length c3) l3, box g (nums .u8 l5) 5]) := (by rw [← E6.out]; exact H5); clear H5;
   have C7 := qaA (H7.out.jF mem1) (by rw [E4.out]; omega); rw [E4.out] at C7;
   have hs7 := Kd.wE (P := Tryz.prog) (src := 147) (dst := 9) (e := 5) (c := 16 + d.size) Tryz.underlying147 Tryz.underlying5 Tryz.underlying9 C7;
   simp only [Act.put, zA, zZ, zS])
 |fail)
  go_ret
  exact ⟨by rw [E5.out]; rfl, H7.out.below⟩
 ·clear hl4 hl5
  go_wp2_with (first
 |((with_reducible refine jC (b := .copy) (xs := #[.tmp 24, .tmp 28]) rfl ?_);
   refine PW [row (Kd.int .u8) 5 (.slice (some ad) l3.length c3) l3] [] rfl (.tmp 24) (.tmp 28) 147 147 rfl 5 Tryz.underlying147 hz g 0 (16 + d.size) (16 + d.size) ad l3.length c3 rfl rfl _ 5 (nums .u8 l3) H3 ?hn qee.out ?hfit ?h1 ?_;
   (case hn => rw [nums_length, HN3.out]; simp only [Nat.min_def]; split <;> omega);
   (case hfit => rw [nums_length, HN3.out, List.length_replicate]; omega);
   (case h1 => intro v hv; simp only [nums, List.mem_map] at hv; obtain ⟨q, _, rfl⟩ := hv; rfl);
   intro w7 H4; rw [E1.out] at H4;
   have H5 : aC (Sep w w7 [row (Kd.int .u8) 5 (.slice (some ad) l3.length c3) l3, box g (nums .u8 l4) 5]) := H4; clear H4;
   simp only [Act.put, zA, zZ, zS])
 |((with_reducible refine jC (b := .copy) (xs := #[.tmp 31, .tmp 32]) rfl ?_);
   refine YW [row (Kd.int .u8) 5 (.slice (some ad) l3.length c3) l3] [] rfl (.tmp 31) (.tmp 32) 147 9 rfl 5 Tryz.underlying147 hz g 16 _ _ d rfl rfl (nums .u8 l4) 5 H5 ?hle ?hfit ?_;
   (case hle => omega);
   (case hfit => rw [nums_length, E2.out]; omega);
   intro w8 H6; rw [E3.out] at H6;
   have H7 : aC (Sep w w8 [row (Kd.int .u8) 5 (.slice (some ad) l3.length c3) l3, box g (nums .u8 l5) 5]) := H6; clear H6;
   have C7 := qaA (H7.out.jF mem1) (by rw [E4.out]; omega); rw [E4.out] at C7;
   have hs7 := Kd.wE (P := Tryz.prog) (src := 147) (dst := 9) (e := 5) (c := 16 + d.size) Tryz.underlying147 Tryz.underlying5 Tryz.underlying9 C7;
   simp only [Act.put, zA, zZ, zS])
 |fail)
  go_ret
  exact ⟨by rw [E5.out]; rfl, H7.out.below⟩
end Go.Proofs.U
namespace Go.Proofs.U
open Go.RowKit Go.Proofs.aA.aK Go.Proofs.aA.aW Go.Proofs.aA.aX
def vF (x y : ByteArray) : Int := if Op.bytesLess x.toList y.toList = true then -1 else if x.toList = y.toList then 0 else 1
theorem PZ (x y : ByteArray) (w : World) :
  Calls Tryz.prog 158 #[.string x, .string y] w fun e w' => e = .returned (.int .i64 (vF x y)) ∧ w = w' := by
 by_cases h1 : Op.bytesLess x.toList y.toList = true
 ·go_enter Tryz.func158, Tryz.ntmps158
  go_wp2
  go_ret
  exact ⟨by simp [vF, h1], rfl⟩
 ·have h1' : Op.bytesLess x.toList y.toList = false := by simpa using h1
  by_cases h2 : x.toList = y.toList
  ·have h3 : (!x.toList == y.toList) = false := by simp [h2]
   have e : vF x y = 0 := by unfold vF; rw [if_neg h1, if_pos h2]
   rw [e]
   clear h1 h2 e
   go_enter Tryz.func158, Tryz.ntmps158
   go_wp2
   go_ret
   exact ⟨rfl, rfl⟩
  ·have h3 : (!x.toList == y.toList) = true := by simp [h2]
   have e : vF x y = 1 := by simp [vF, h1', h2]
   rw [e]
   clear h1 h2 e
   go_enter Tryz.func158, Tryz.ntmps158
   go_wp2
   go_ret
   exact ⟨rfl, rfl⟩
theorem zY (x : S67) (y : ByteArray) (w : World) :
  Calls Tryz.prog 157 #[.agg #[.string x.f0, .string x.f1, .int .i64 x.f2], .string y] w fun e w' => e = .returned (.int .i64 (vF x.f0 y)) ∧ Below w.heap.size w w' := by
 go_enter Tryz.func157, Tryz.ntmps157
 go_wp2_with (go_at_call 158; refine (PZ _ _ _).mono ?_; rintro e w' ⟨rfl, rfl⟩)
 go_ret
 exact ⟨rfl, (Below.refl _ _).alloc (Nat.le_refl _) _⟩
def bsGo (l : List S67) (s : ByteArray) : Nat → Nat → Nat → Nat
 | 0, i, _ => i
 | f + 1, i, j => if i < j then (if vF (dV l (((i + j) / 2 : Nat) : Int)).f0 s < 0 then bsGo l s f ((i + j) / 2 + 1) j else bsGo l s f i ((i + j) / 2)) else i
theorem GV (l : List S67) (s : ByteArray) : ∀ (f i j : Nat), i ≤ j → i ≤ bsGo l s f i j ∧ bsGo l s f i j ≤ j
 | 0, i, j, h => ⟨Nat.le_refl _, h⟩
 | f + 1, i, j, h => by
  unfold bsGo
  split
  ·split
   ·have := GV l s f ((i + j) / 2 + 1) j (by omega); omega
   ·have := GV l s f i ((i + j) / 2) (by omega); omega
  ·omega
def bsOf (l : List S67) (s : ByteArray) : Nat := bsGo l s l.length 0 l.length
def lD (l : List S67) (s : ByteArray) (i : Nat) : Bool := decide (i < l.length) && (vF (dV l (i : Int)).f0 s == 0)
theorem SV (x y : ByteArray) : -1 ≤ vF x y ∧ vF x y ≤ 1 := by
 unfold vF
 split
 ·omega
 ·split <;> omega
set_option maxHeartbeats 1600000 in
theorem SX (A : Option Addr) (c : Nat) (l : List S67) (s : ByteArray) (w : World) (hr : Kd.C k67 w A l.length l) (hn : l.length ≤ 64) :
  Calls Tryz.prog 156 #[.slice A l.length c, .string s, .func (.func 157) #[] #[]] w fun e w' => e = .returned (.tuple #[.int .i64 (bsOf l s), .bool (lD l s (bsOf l s))]) ∧ Below w.heap.size w w' := by
 have HR := aC.mk hr
 clear hr
 go_enter Tryz.func156, Tryz.ntmps156
 go_wp2
 go_loopw [9, 10] (fun vi vj wr => ∃ i j f : Nat, vi = .int .i64 i ∧ vj = .int .i64 j ∧ i ≤ j ∧ j ≤ l.length ∧ j ≤ i + f ∧ aC (bsGo l s f i j = bsOf l s) ∧ aC (Below w.heap.size w wr))
  (fun vi vj _ => (intOf vj).toNat - (intOf vi).toNat)
 case atStart => exact ⟨0, l.length, l.length, rfl, rfl, by omega, by omega, by omega, ⟨rfl⟩, ⟨Below.refl _ _⟩⟩
 case round =>
  obtain ⟨i, j, f, rfl, rfl, hij, hjn, hjf, HG, HB⟩ := hrel
  by_cases hlt : i < j
  ·have hr1 := Kd.fK HR.out HB.out
   obtain ⟨ad, rfl, hc0, hc1, hc2⟩ := IU hr1 (((i + j) / 2 : Nat) : Int) (by omega) (by omega)
   clear hr1
   simp only [Int.toNat_natCast] at hc0 hc1 hc2
   have hrg := SV (dV l (((i + j) / 2 : Nat) : Int)).f0 s
   obtain ⟨x, hx⟩ : ∃ x, x = dV l (((i + j) / 2 : Nat) : Int) := ⟨_, rfl⟩
   rw [← hx] at hc0 hc1 hc2 hrg
   have HX := aC.mk hx
   clear hx
   by_cases hcm : vF x.f0 s < 0
   ·go_wp2_with (go_at_call 157; refine (zY x s _).mono ?_; rintro e w' ⟨rfl, hb⟩)
    refine ⟨⟨(i + j) / 2 + 1, j, f - 1, by congr 1, rfl, by omega, hjn, by omega, ⟨?_⟩, ⟨bF HB.out hb⟩⟩, by simp [intOf]; omega⟩
    have h := HG.out
    obtain ⟨f, rfl⟩ : ∃ f', f = f' + 1 := ⟨f - 1, by omega⟩
    rw [← h, bsGo, if_pos hlt, if_pos (by rw [← HX.out]; exact hcm)]
    rfl
   ·have hcm2 : decide (vF x.f0 s < 0) = false := by simpa using hcm
    go_wp2_with (go_at_call 157; refine (zY x s _).mono ?_; rintro e w' ⟨rfl, hb⟩)
    refine ⟨⟨i, (i + j) / 2, f - 1, rfl, by congr 1, by omega, by omega, by omega, ⟨?_⟩, ⟨bF HB.out hb⟩⟩, by simp [intOf]; omega⟩
    have h := HG.out
    obtain ⟨f, rfl⟩ : ∃ f', f = f' + 1 := ⟨f - 1, by omega⟩
    rw [← h, bsGo, if_pos hlt, if_neg (by rw [← HX.out]; omega)]
    rfl
  ·have hij2 : i = j := by omega
   subst hij2
   have HI : aC (i = bsOf l s) := by
    have h := HG.out
    refine ⟨?_⟩
    rw [← h]
    cases f <;> simp [bsGo]
   by_cases hin : i < l.length
   ·have hr1 := Kd.fK HR.out HB.out
    obtain ⟨ad, rfl, hc0, hc1, hc2⟩ := IU hr1 (i : Int) (by omega) (by omega)
    clear hr1
    simp only [Int.toNat_natCast] at hc0 hc1 hc2
    obtain ⟨x, hx⟩ : ∃ x, x = dV l (i : Int) := ⟨_, rfl⟩
    rw [← hx] at hc0 hc1 hc2
    have HX := aC.mk hx
    clear hx
    go_wp2_with (go_at_call 157; refine (zY x s _).mono ?_; rintro e w' ⟨rfl, hb⟩)
    go_ret2
    refine ⟨?_, bF HB.out hb⟩
    rw [← HI.out]
    have e1 : lD l s i = (vF x.f0 s == 0) := by unfold lD; rw [← HX.out]; simp [hin]
    rw [e1]
    rfl
   ·have e1 : lD l s i = false := by unfold lD; simp [hin]
    go_wp2
    go_ret2
    refine ⟨?_, HB.out⟩
    rw [← HI.out, e1]
    rfl
def rY.f (bJ : List (S67)) (cZ : Bool) (dA : Int) (dB : Int) (a1 : ByteArray) : Option (Int × Bool) := if bJ.length ≤ 64 then some ((bsOf bJ a1 : Int), lD bJ a1 (bsOf bJ a1)) else none
theorem rY.calls (dQ : Option Addr) (dR : Nat) (bJ : List (S67)) (cZ : Bool) (dA : Int) (dB : Int) (a1 : ByteArray) (r1 : Int) (r2 : Bool) (w : World) (jY : Kd.C k67 w dQ bJ.length bJ) (lX : bJ.length ≤ dR) (h : rY.f bJ cZ dA dB a1 = some (r1, r2)) :
  Calls Tryz.prog 114 #[.agg #[.slice dQ bJ.length dR, .bool cZ, .int .i64 dA, .int .i64 dB], .string a1] w fun e w' => e = .returned (.tuple #[.int .i64 r1, .bool r2]) ∧ Below w.heap.size w w' := by
 unfold rY.f at h
 split at h
 case isFalse => cases h
 rename_i hn
 simp only [Option.some.injEq, Prod.mk.injEq] at h
 obtain ⟨rfl, rfl⟩ := h
 have HR := aC.mk jY
 clear jY
 go_enter Tryz.func114, Tryz.ntmps114
 go_wp2_with (go_at_call 156; (with_reducible refine (SX dQ dR bJ a1 _ (Kd.fK HR.out ((Below.refl _ _).alloc (Nat.le_refl _) _)) hn).mono ?_); rintro e w' ⟨rfl, hb⟩)
 go_ret2
 exact ⟨rfl, bF ((Below.refl _ _).alloc (Nat.le_refl _) _) hb⟩
theorem rJ : ∀ a : List UInt8, Op.bytesLess a a = false
 | [] => rfl
 | x :: r => by
  simp only [Op.bytesLess, Bool.or_eq_false_iff, Bool.and_eq_false_iff]
  exact ⟨by simp, .inr (rJ r)⟩
theorem IW : ∀ a b : List UInt8, Op.bytesLess a b = true → Op.bytesLess b a = false
 | a, [], h => by cases a <;> simp [Op.bytesLess] at h
 | [], y :: s, h => rfl
 | x :: r, y :: s, h => by
  simp only [Op.bytesLess, Bool.or_eq_true, Bool.and_eq_true, decide_eq_true_eq, beq_iff_eq] at h
  simp only [Op.bytesLess, Bool.or_eq_false_iff, Bool.and_eq_false_iff, decide_eq_false_iff_not]
  rcases h with h | ⟨rfl, h⟩
  ·have hn : x.toNat < y.toNat := h
   refine ⟨fun hh => ?_, .inl ?_⟩
   ·have : y.toNat < x.toNat := hh
    omega
   ·simp only [beq_eq_false_iff_ne, ne_eq]
    rintro rfl
    omega
  ·exact ⟨fun hh => by have : x.toNat < x.toNat := hh; omega, .inr (IW r s h)⟩
theorem CQ : ∀ a b : List UInt8, Op.bytesLess a b = true ∨ a = b ∨ Op.bytesLess b a = true
 | [], [] => .inr (.inl rfl)
 | [], y :: s => .inl rfl
 | x :: r, [] => .inr (.inr rfl)
 | x :: r, y :: s => by
  simp only [Op.bytesLess, Bool.or_eq_true, Bool.and_eq_true, decide_eq_true_eq, beq_iff_eq, List.cons.injEq]
  rcases Nat.lt_trichotomy x.toNat y.toNat with h | h | h
  ·exact .inl (.inl h)
  ·have e : x = y := UInt8.toNat_inj.mp h
   subst e
   rcases CQ r s with g | g | g
   ·exact .inl (.inr ⟨rfl, g⟩)
   ·exact .inr (.inl ⟨rfl, g⟩)
   ·exact .inr (.inr (.inr ⟨rfl, g⟩))
  ·exact .inr (.inr (.inl h))
theorem wK : ∀ a b c : List UInt8, Op.bytesLess a b = true → Op.bytesLess b c = true → Op.bytesLess a c = true
 | a, b, [], h, k => by cases b <;> simp [Op.bytesLess] at k
 | [], b, z :: t, h, k => rfl
 | x :: r, [], z :: t, h, k => by simp [Op.bytesLess] at h
 | x :: r, y :: s, z :: t, h, k => by
  simp only [Op.bytesLess, Bool.or_eq_true, Bool.and_eq_true, decide_eq_true_eq, beq_iff_eq] at h k ⊢
  rcases h with h | ⟨rfl, h⟩
  ·rcases k with k | ⟨rfl, k⟩
   ·left
    have h' : x.toNat < y.toNat := h
    have k' : y.toNat < z.toNat := k
    show x.toNat < z.toNat
    omega
   ·exact .inl h
  ·rcases k with k | ⟨rfl, k⟩
   ·exact .inl k
   ·exact .inr ⟨rfl, wK r s t h k⟩
theorem SY : (⟨#[]⟩ : ByteArray).toList = [] := by
 unfold ByteArray.toList
 rw [ByteArray.toList.loop]
 rfl
def AA (last : List UInt8) (f : S67) : Bool := Op.bytesLess last f.f0.toList && decide (f.f0.size ≤ 4096) && decide (f.f1.size ≤ 262144) && decide (0 ≤ f.f2) && decide (f.f2 ≤ (f.f1.size : Int))
def lQ : List UInt8 → List S67 → Bool
 | _, [] => true
 | last, f :: r => AA last f && lQ f.f0.toList r
def bI (l : List S67) : Bool := lQ [] l && decide (l.length ≤ 64)
theorem qbR (l : List S67) (i : Nat) (h : i < l.length) : l.drop i = dV l (i : Int) :: l.drop (i + 1) := by
 rw [List.drop_eq_getElem_cons h]
 congr 1
 simp [dV, List.getD, h]
def dW.f (bJ : List (S67)) (cZ : Bool) (dA : Int) (dB : Int) : Option (Int) := some (if bI bJ = true then 0 else 6)
set_option maxHeartbeats 1600000 in
theorem dW.calls (dQ : Option Addr) (dR : Nat) (bJ : List (S67)) (cZ : Bool) (dA : Int) (dB : Int) (r : Int) (w : World) (jY : Kd.C k67 w dQ bJ.length bJ) (lX : bJ.length ≤ dR) (h : dW.f bJ cZ dA dB = some r) :
  Calls Tryz.prog 50 #[.agg #[.slice dQ bJ.length dR, .bool cZ, .int .i64 dA, .int .i64 dB]] w fun e w' => e = .returned (.int .i64 r) ∧ Below w.heap.size w w' := by
 unfold dW.f at h
 have HRR := aC.mk (Option.some.inj h).symm
 clear h
 have hlen : bJ.length ≤ 9223372036854775807 := jY.2.1
 have HR := aC.mk jY
 clear jY
 go_enter Tryz.func50, Tryz.ntmps50
 go_wp2
 go_loopw [3, 9] (fun vl vi wr => ∃ (i : Nat) (last : ByteArray), vl = .string last ∧ vi = .int .i64 i ∧ i ≤ bJ.length ∧ aC (lQ last.toList (bJ.drop i) = lQ [] bJ) ∧ aC (wr.heap[w.heap.size]? = some (.cells #[.slice dQ bJ.length dR, .bool cZ, .int .i64 dA, .int .i64 dB] 27 (0, 0))) ∧ aC (Below w.heap.size w wr))
  (fun vl vi _ => bJ.length - (intOf vi).toNat)
 case atStart => exact ⟨0, _, rfl, rfl, Nat.zero_le _, ⟨by rw [List.drop_zero, SY]⟩, ⟨jV _ _⟩, ⟨(Below.refl _ _).alloc (Nat.le_refl _) _⟩⟩
 case round =>
  obtain ⟨i, last, rfl, rfl, hin, HG, HK, HB⟩ := hrel
  by_cases hlt : i < bJ.length
  ·have hr1 := Kd.fK HR.out HB.out
   obtain ⟨ad, rfl, hc0, hc1, hc2⟩ := IU hr1 (i : Int) (by omega) (by omega)
   clear hr1
   have HD := aC.mk (qbR bJ i hlt)
   simp only [Int.toNat_natCast] at hc0 hc1 hc2
   obtain ⟨x, hx⟩ : ∃ x, x = dV bJ (i : Int) := ⟨_, rfl⟩
   rw [← hx] at hc0 hc1 hc2 HD
   clear hx
   by_cases hok : AA last.toList x = true
   ·have hok2 := hok
    simp only [AA, Bool.and_eq_true, decide_eq_true_eq] at hok2
    obtain ⟨⟨⟨⟨c1, c2⟩, c3⟩, c4⟩, c5⟩ := hok2
    have g1 : Op.bytesLess x.f0.toList last.toList = false := IW _ _ c1
    have g2 : (x.f0.toList == last.toList) = false := by
     simp only [beq_eq_false_iff_ne, ne_eq]
     intro e
     rw [e, rJ] at c1
     cases c1
    have c2' : (x.f0.size : Int) ≤ 4096 := by omega
    have c3' : (x.f1.size : Int) ≤ 262144 := by omega
    have HOK := aC.mk hok
    clear c1 hok c2 c3
    go_wp2
    refine ⟨⟨i + 1, x.f0, by simp, by congr 1, by omega, ⟨?_⟩, ⟨bC HK.out _⟩, ⟨aQ HB.out _⟩⟩, by simp [intOf]; omega⟩
    have h := HG.out
    rw [HD.out] at h
    simp only [lQ, HOK.out, Bool.true_and] at h
    exact h
   ·have HR6 : aC (r = 6) := by
     refine ⟨?_⟩
     have h := HG.out
     rw [HD.out] at h
     have e : AA last.toList x = false := by simpa using hok
     simp only [lQ, e, Bool.false_and] at h
     rw [HRR.out, bI, ← h]
     rfl
    by_cases c1 : Op.bytesLess last.toList x.f0.toList = true
    ·have g1 : Op.bytesLess x.f0.toList last.toList = false := IW _ _ c1
     have g2 : (x.f0.toList == last.toList) = false := by
      simp only [beq_eq_false_iff_ne, ne_eq]
      intro e
      rw [e, rJ] at c1
      cases c1
     have hbad : aC (¬ ((x.f0.size : Int) ≤ 4096 ∧ (x.f1.size : Int) ≤ 262144 ∧ 0 ≤ x.f2 ∧ x.f2 ≤ (x.f1.size : Int))) := by
      refine ⟨fun hh => hok ?_⟩
      simp only [AA, Bool.and_eq_true, decide_eq_true_eq]
      exact ⟨⟨⟨⟨c1, by omega⟩, by omega⟩, hh.2.2.1⟩, hh.2.2.2⟩
     clear c1 hok
     go_wp2
     all_goals first
      | (go_ret; exact ⟨by rw [HR6.out]; rfl, aQ HB.out _⟩)
      | (have := hbad.out; exfalso; omega)
    ·have g0 : (Op.bytesLess x.f0.toList last.toList || x.f0.toList == last.toList) = true := by
      rcases CQ last.toList x.f0.toList with g | g | g
      ·exact absurd g c1
      ·simp [g]
      ·simp [g]
     clear c1 hok
     go_wp2
     all_goals first
      | (go_ret; exact ⟨by rw [HR6.out]; rfl, aQ HB.out _⟩)
  ·have qil : wr.cell? ⟨w.heap.size, 0, none⟩ = some (.slice dQ bJ.length dR) := (aH HK.out 0).trans rfl
   have hi : i = bJ.length := by omega
   subst hi
   have HOK : aC (lQ [] bJ = true) := ⟨by have h := HG.out; rw [List.drop_length] at h; exact h.symm⟩
   by_cases hn : bJ.length ≤ 64
   ·have HR0 : aC (r = 0) := ⟨by rw [HRR.out, bI, HOK.out]; simp [hn]⟩
    go_wp2
    go_ret
    exact ⟨by rw [HR0.out]; rfl, HB.out⟩
   ·have HR0 : aC (r = 6) := ⟨by rw [HRR.out, bI, HOK.out]; simp [hn]⟩
    go_wp2
    go_ret
    exact ⟨by rw [HR0.out]; rfl, HB.out⟩
def rZ.f (l0 : List (S67)) : Option (List (S67)) := if l0.length < 3518437208883 then some l0 else none
set_option maxHeartbeats 1600000 in
theorem rZ.calls (A0 : Option Addr) (c0 : Nat) (l0 : List (S67)) (r : List (S67)) (w : World) (hr0 : Kd.C k67 w A0 l0.length l0) (hc0 : l0.length ≤ c0) (h : rZ.f l0 = some r) :
  Calls Tryz.prog 63 #[.slice A0 l0.length c0] w fun e w' => ∃ v0_ : Value, e = .returned v0_ ∧ Kd.R k67 67 w' w.heap.size (fun _ => True) v0_ r ∧ Below w.heap.size w w' := by
 unfold rZ.f at h
 split at h
 case isFalse => cases h
 rename_i hn
 have HE := aC.mk (Option.some.inj h)
 clear h
 have HR := aC.mk hr0
 clear hr0
 have hnil : ∀ (a : Option Addr) (n c : Nat) (w : World), (binOp .eql 25 (.slice a n c) (.slice none 0 0)).run Tryz.prog w = .ok (.bool a.isNone) w := fun a n c w => by
  simp only [binOp]
  simp [Op.equal, Op.maxDepth, Lib.run_equalIn_slice_nil w 9999 25 67 a n c 0 0 Tryz.underlying25]
 cases A0 with
 | none =>
  have hl : l0 = [] := by
   cases l0 with
   | nil => rfl
   | cons x s => obtain ⟨ad, h, _⟩ := HR.out.2.2 (by simp); cases h
  go_enter Tryz.func63, Tryz.ntmps63
  go_wp2
  go_ret
  exact ⟨_, rfl, by rw [← HE.out, hl]; exact Kd.CB _ _ _ _ _, Below.refl _ _⟩
 | some ad =>
  go_enter Tryz.func63, Tryz.ntmps63
  go_wp2_with (first
 |((with_reducible refine aU (N := 5) rfl ?_);
   refine Kd.qcS k67 _ 67 ?hg (N := 5) ?hd (xs := ([] : List (S67))) (inner := []) (ok := fun _ => True) (okp := fun _ => True) ?hr ?hp (fun _ hk => hk) trivial (Below.refl _ _) (Nat.le_refl _) (by simp) ?_;
   (case hd => rfl); (case hg => rfl); (case hr => first | (go_simp; done) | (go_simp; rfl)); (case hp => exact (fF.none _ _));
   intro v5 w5 ho hb hg_ qaE; clear hg_ qaE; have HO := aC.mk ho; have HB := aC.mk hb; clear ho hb)
 |((with_reducible refine jC (b := .append) (xs := #[.tmp 5, .tmp 6]) rfl ?_); at_builtin;
   refine Kd.tK k67 (w0 := w) w.heap.size rfl (.tmp 5) (.tmp 6) 25 67 (.agg #[(.string ⟨#[]⟩), (.string ⟨#[]⟩), (.int .i64 0)]) 40 rfl Tryz.underlying25 DZ rfl (by decide) (by omega) v5 [] l0 _ _ _ (fun _ => True) (fun _ => False) rfl rfl ?aO ?aR (fun _ _ h => h) (fun _ h => h.elim) ?aF ?aB ?aS ?aL ?_;
   (case aR => exact Kd.fK HR.out HB.out); (case aB => exact HB.out); (case aF => exact fun _ _ => trivial); (case aO => exact HO.out); (case aS => exact HB.out.size); (case aL => simp only [List.length_nil]; omega);
   intro v7 w9 ho hb hg hat; clear hg hat; have HO2 := aC.mk ho; have HB2 := aC.mk hb; clear ho hb))
  go_ret
  exact ⟨_, rfl, by rw [← HE.out]; exact HO2.out, HB2.out⟩
end Go.Proofs.U
