import Derived.Test.YtanonhipicoigaaGreatDoorProg
import Derived.WalkLawsBesides
import Derived.Below
import Derived.Deep.Draws
import Derived.Deep.AppendLies
import Derived.Maps.AppendAt
import Derived.OwnWalk
import Derived.Laws.BytesArg
import Derived.Laws.MakeOwn
import Derived.Laws.OwnMore
import Derived.Deep.OwnRows
import Derived.Tactics
import Derived.Lib.ConvBytes
import Derived.Laws.Slices
import Derived.WalkKit
import Derived.KernelRfl
import Derived.RowKit3
import Derived.Deep.LoopGhost
import Derived.Deep.QuietTactic
import Derived.BigQuiet
import Derived.WideLaws
import Derived.Deep.DeepCutAuto
import Derived.Deep.CutBlock
import Derived.Deep.RegionHeld3
import Derived.Laws.Rows
import Derived.Lib.AppendStr
import Derived.ArgAppend
import Derived.Laws.IdiomCopy
import Derived.OrdersHeld
import Derived.Laws.BitsLemmas
import Derived.RowKit
import Derived.Test.YtanonhipicoigaaGreatDoorZSab
import Derived.Deep.Slices
import Derived.Deep.Fields
import Derived.ChangeSame
import Derived.Lib.SmallJoins
import Derived.Outline
import Derived.Deep.MidRow
import Derived.Laws.CopyOwn
import Derived.Lib.BufferWrite
import Derived.BigFrame
import Derived.OpenShut
import Derived.WalkSpells
import Derived.Laws.EntriesVeiled
import Derived.Deep.RegionLawGrows
namespace Go.Proofs.YtanonhipicoigaaGreatDoor.U
open Go.RowKit Go.Proofs.YtanonhipicoigaaGreatDoorW.PrintWords Go.Proofs.YtanonhipicoigaaGreatDoorW.PrintLast Go.Proofs.YtanonhipicoigaaGreatDoorW.PrintMore
attribute [local go_sem] max2_int min2_int max_two min_two max_three min_three max_four min_four   -- for this text's walks alone
set_option linter.unusedVariables false
set_option linter.unusedSimpArgs false
def errW : Option Int → Value
  | none => .nilIface
  | some c => .iface 258 (.int .i64 c)
theorem errW_none : errW none = .nilIface := rfl
theorem errW_some (c : Int) : errW (some c) = .iface 258 (.int .i64 c) := rfl
theorem info5 : (Tryz.prog.info? 5).map (fun i => (i.zero, i.size, i.bytes)) = some (some (.int .u8 0), 1, 1) := by kernel_rfl
theorem info62 : (Tryz.prog.info? 62).map (fun i => (i.zero, i.size, i.bytes)) = some (some (.agg #[(.int .u64 0), (.string ⟨#[]⟩)]), 2, 24) := by kernel_rfl
theorem info67 : (Tryz.prog.info? 67).map (fun i => (i.zero, i.size, i.bytes)) = some (some (.agg #[(.string ⟨#[]⟩), (.string ⟨#[]⟩), (.int .i64 0)]), 3, 40) := by kernel_rfl
-- the values' own types
/-! #### struct type 67 -/
structure S67 where
  f0 : ByteArray
  f1 : ByteArray
  f2 : Int
def z67 : S67 := ⟨(⟨#[]⟩ : ByteArray), (⟨#[]⟩ : ByteArray), (0 : Int)⟩
def k67 : Kd S67 := Kd.iso (Kd.pair Kd.string (Kd.pair Kd.string (Kd.int .i64))) (fun x : S67 => (x.f0, x.f1, x.f2))
theorem k67_open {w : World} {x : S67} {cs : List Value} (h : k67.K w x cs) : cs = [.string x.f0, .string x.f1, .int .i64 x.f2] := by
  obtain ⟨_, _, rfl, rfl, ⟨_, _, rfl, rfl, rfl⟩⟩ := h
  exact rfl
theorem k67_openM {w : World} {base : Nat} {ok : Nat → Prop} {x : S67} {cs : List Value} (h : k67.M w base ok x cs) : cs = [.string x.f0, .string x.f1, .int .i64 x.f2] := by
  obtain ⟨_, _, rfl, rfl, ⟨_, _, rfl, rfl, rfl⟩⟩ := h
  exact rfl
theorem k67_mk (w : World) (x : S67)  : k67.K w x [.string x.f0, .string x.f1, .int .i64 x.f2] := ⟨[.string x.f0], [.string x.f1, .int .i64 x.f2], rfl, rfl, ⟨[.string x.f1], [.int .i64 x.f2], rfl, rfl, rfl⟩⟩
theorem k67_mkM (w : World) (base : Nat) (ok : Nat → Prop) (x : S67)  : k67.M w base ok x [.string x.f0, .string x.f1, .int .i64 x.f2] := ⟨[.string x.f0], [.string x.f1, .int .i64 x.f2], rfl, rfl, ⟨[.string x.f1], [.int .i64 x.f2], rfl, rfl, rfl⟩⟩
def rd_T67 (xs : List S67) (i : Int) : S67 := xs.getD i.toNat z67
theorem at_T67 {w : World} {A : Option Addr} {n : Nat} {xs : List S67} (h : Kd.C k67 w A n xs) (i : Int) (h0 : 0 ≤ i) (h1 : i < n) : ∃ ad , A = some ad ∧ w.cell? (ad.add (i.toNat * 3)) = some (.string (rd_T67 xs i).f0) ∧ w.cell? ⟨(ad.add (i.toNat * 3)).block, (ad.add (i.toNat * 3)).off + 1, none⟩ = some (.string (rd_T67 xs i).f1) ∧ w.cell? ⟨(ad.add (i.toNat * 3)).block, (ad.add (i.toNat * 3)).off + 2, none⟩ = some (.int .i64 (rd_T67 xs i).f2) := by
  obtain ⟨ad, c, e, _, hK, hc0⟩ := Kd.C_get h z67 i h0 h1
  have hc : ∀ j u, c[j]? = some u → w.cell? (ad.add (i.toNat * 3 + j)) = some u := hc0
  obtain rfl := k67_open hK
  exact ⟨ad, e, hc 0 _ rfl, by rw [← add_field _ _ 1 (by omega)]; exact hc 1 _ rfl, by rw [← add_field _ _ 2 (by omega)]; exact hc 2 _ rfl⟩
/-! #### struct type 62 -/
structure S62 where
  f0 : Int
  f1 : ByteArray
def z62 : S62 := ⟨(0 : Int), (⟨#[]⟩ : ByteArray)⟩
def k62 : Kd S62 := Kd.iso (Kd.pair (Kd.int .u64) Kd.string) (fun x : S62 => (x.f0, x.f1))
theorem k62_open {w : World} {x : S62} {cs : List Value} (h : k62.K w x cs) : cs = [.int .u64 x.f0, .string x.f1] := by
  obtain ⟨_, _, rfl, rfl, rfl⟩ := h
  exact rfl
theorem k62_openM {w : World} {base : Nat} {ok : Nat → Prop} {x : S62} {cs : List Value} (h : k62.M w base ok x cs) : cs = [.int .u64 x.f0, .string x.f1] := by
  obtain ⟨_, _, rfl, rfl, rfl⟩ := h
  exact rfl
theorem k62_mk (w : World) (x : S62)  : k62.K w x [.int .u64 x.f0, .string x.f1] := ⟨[.int .u64 x.f0], [.string x.f1], rfl, rfl, rfl⟩
theorem k62_mkM (w : World) (base : Nat) (ok : Nat → Prop) (x : S62)  : k62.M w base ok x [.int .u64 x.f0, .string x.f1] := ⟨[.int .u64 x.f0], [.string x.f1], rfl, rfl, rfl⟩
def rd_T62 (xs : List S62) (i : Int) : S62 := xs.getD i.toNat z62
theorem at_T62 {w : World} {A : Option Addr} {n : Nat} {xs : List S62} (h : Kd.C k62 w A n xs) (i : Int) (h0 : 0 ≤ i) (h1 : i < n) : ∃ ad , A = some ad ∧ w.cell? (ad.add (i.toNat * 2)) = some (.int .u64 (rd_T62 xs i).f0) ∧ w.cell? ⟨(ad.add (i.toNat * 2)).block, (ad.add (i.toNat * 2)).off + 1, none⟩ = some (.string (rd_T62 xs i).f1) := by
  obtain ⟨ad, c, e, _, hK, hc0⟩ := Kd.C_get h z62 i h0 h1
  have hc : ∀ j u, c[j]? = some u → w.cell? (ad.add (i.toNat * 2 + j)) = some u := hc0
  obtain rfl := k62_open hK
  exact ⟨ad, e, hc 0 _ rfl, by rw [← add_field _ _ 1 (by omega)]; exact hc 1 _ rfl⟩
end Go.Proofs.YtanonhipicoigaaGreatDoor.U
namespace Go.Proofs.YtanonhipicoigaaGreatDoor.U
open Go.ChangeShapes Go.WideShapes Go.Deep Go.RowKit Go.Proofs.YtanonhipicoigaaGreatDoorW.PrintWords Go.Proofs.YtanonhipicoigaaGreatDoorW.PrintLast Go.Proofs.YtanonhipicoigaaGreatDoorW.PrintMore
set_option linter.unusedVariables false
set_option linter.unusedSimpArgs false
/-! ### A row of files that comes in -/
theorem list_of {α : Type} {Q : Nat → α → Prop} (n : Nat) (h : ∀ i, i < n → ∃ x, Q i x) : ∃ l : List α, l.length = n ∧ ∀ (i : Nat) (x : α), l[i]? = some x → Q i x := by
  induction n with
  | zero => exact ⟨[], rfl, by simp⟩
  | succ n ih =>
    obtain ⟨l, hl, hq⟩ := ih (fun i hi => h i (by omega))
    obtain ⟨x, hx⟩ := h n (by omega)
    refine ⟨l ++ [x], by simp [hl], fun i y hy => ?_⟩
    rcases Nat.lt_or_ge i n with g | g
    · rw [List.getElem?_append_left (by omega)] at hy
      exact hq i y hy
    · rw [List.getElem?_append_right (by omega)] at hy
      have : i - l.length = 0 := by
        have := (List.getElem?_eq_some_iff.1 hy).1
        simpa using this
      rw [this] at hy
      simp at hy
      subst hy
      obtain rfl : i = n := by omega
      exact hx
section
variable {H : Type} {enc : TypeId × Value → H} {w : World} {base : Nat} {held : Bool}
set_option maxRecDepth 100000 in
theorem open_files {fuel : Nat} {v : Value} {x : DataW H × List MemPlace} (h : DataW.trod enc Tryz.prog w base (fun _ => true) held fuel 25 [v] = some x) :
    ∃ (A : Option Addr) (l : List S67) (c : Nat), v = .slice A l.length c ∧ l.length ≤ c ∧ Kd.C k67 w A l.length l := by
  rcases open_slice Tryz.underlying25 h with h0 | ⟨a, len, cap, m, n, D, Pl, hcs, hb, hl, hm, hmm, hx, hi⟩
  · obtain ⟨h0, _⟩ := h0
    simp only [List.cons.injEq, and_true] at h0
    exact ⟨none, [], 0, h0, Nat.le_refl _, Kd.C_nil _ _⟩
  · simp only [List.cons.injEq, and_true] at hcs
    subst hcs
    have hone : oneCellFields Tryz.prog (match Tryz.prog.underlying 67 with | some (.struct fs) => fs | _ => #[]) = true := by kernel_rfl
    have key : ∀ i, i < len → ∃ p : S67, ∀ j u, [Value.string p.f0, Value.string p.f1, Value.int .i64 p.f2][j]? = some u → w.cell? (a.add (i * 3 + j)) = some u := by
      intro i hi2
      obtain ⟨cs', hc, ht'⟩ := hi i (by rw [hmm]; simp; omega)
      rw [show Tryz.prog.cellsOf 67 = 3 by kernel_rfl] at hc
      obtain ⟨ys, n', hn', hy, hlen, hyl, hf⟩ := DataW.trod_struct Tryz.underlying67 ht'
      obtain ⟨_, hcl, hat⟩ := World.cells?_some hc
      match cs', hcl with
      | [c0, c1, c2], _ =>
        have e9 : Tryz.prog.cellsOf 9 = 1 := by kernel_rfl
        have e3 : Tryz.prog.cellsOf 3 = 1 := by kernel_rfl
        have h0 : DataW.trod enc Tryz.prog w base (fun _ => true) held n' 9 (List.take (Tryz.prog.cellsOf 9) (List.drop 0 [c0, c1, c2])) = ys[0]? := hf 0 _ rfl
        have h1 : DataW.trod enc Tryz.prog w base (fun _ => true) held n' 9 (List.take (Tryz.prog.cellsOf 9) (List.drop 1 [c0, c1, c2])) = ys[1]? := hf 1 _ rfl
        have h2 : DataW.trod enc Tryz.prog w base (fun _ => true) held n' 3 (List.take (Tryz.prog.cellsOf 3) (List.drop 2 [c0, c1, c2])) = ys[2]? := hf 2 _ rfl
        rw [e9] at h0 h1
        rw [e3] at h2
        have hy3 : ys.length = 3 := hyl
        rw [List.getElem?_eq_getElem (by omega)] at h0 h1 h2
        obtain ⟨s0, q0, _⟩ := DataW.trod_string Tryz.underlying9 h0
        obtain ⟨s1, q1, _⟩ := DataW.trod_string Tryz.underlying9 h1
        obtain ⟨s2, q2, _⟩ := DataW.trod_int Tryz.underlying3 h2
        obtain rfl : c0 = .string s0 := by simpa using q0
        obtain rfl : c1 = .string s1 := by simpa using q1
        obtain rfl : c2 = .int .i64 s2 := by simpa using q2
        refine ⟨⟨s0, s1, s2⟩, fun j u hu => ?_⟩
        have hj : j < 3 := (List.getElem?_eq_some_iff.1 hu).1
        have := hat j hj
        rw [← Go.Deep.add_add, this]
        exact hu
    obtain ⟨l, hll, hq⟩ := list_of len key
    refine ⟨some a, l, cap, by rw [hll], by omega, rfl, by unfold maxLen at hm; omega, fun _ => ⟨a, rfl, fun j p hj => ⟨_, rfl, k67_mk w p, ?_⟩⟩⟩
    exact hq j p hj
end
end Go.Proofs.YtanonhipicoigaaGreatDoor.U
namespace Go.Proofs.YtanonhipicoigaaGreatDoor.U
open Go.ChangeShapes Go.WideShapes Go.Deep Go.RowKit Go.Proofs.YtanonhipicoigaaGreatDoorW.PrintWords Go.Proofs.YtanonhipicoigaaGreatDoorW.PrintLast Go.Proofs.YtanonhipicoigaaGreatDoorW.PrintMore
set_option linter.unusedVariables false
set_option linter.unusedSimpArgs false
section
variable {H : Type} {enc : TypeId × Value → H} {w : World} {base : Nat} {held : Bool}
theorem open_ints23 {fuel : Nat} {A : Option Addr} {len cap : Nat} {x : DataW H × List MemPlace} (h : DataW.trod enc Tryz.prog w base (fun _ => true) held fuel 23 [.slice A len cap] = some x) :
    ∃ l : List Int, len = l.length ∧ len ≤ cap ∧ Kd.C (Kd.int .i64) w A len l := by
  rcases open_slice Tryz.underlying23 h with h0 | ⟨a, len', cap', m, n, D, Pl, hcs, hb, hl, hm, hmm, hx, hi⟩
  · obtain ⟨h0, _⟩ := h0
    simp only [List.cons.injEq, and_true, Value.slice.injEq] at h0
    obtain ⟨rfl, rfl, rfl⟩ := h0
    exact ⟨[], rfl, Nat.le_refl _, Kd.C_nil _ _⟩
  · simp only [List.cons.injEq, and_true, Value.slice.injEq] at hcs
    obtain ⟨rfl, rfl, rfl⟩ := hcs
    have key : ∀ i, i < len → ∃ p : Int, ∀ j u, [Value.int .i64 p][j]? = some u → w.cell? (a.add (i * 1 + j)) = some u := by
      intro i hi2
      obtain ⟨cs', hc, ht'⟩ := hi i (by rw [hmm]; simp; omega)
      rw [show Tryz.prog.cellsOf 3 = 1 by kernel_rfl] at hc
      obtain ⟨_, hcl, hat⟩ := World.cells?_some hc
      obtain ⟨s2, q2, _⟩ := DataW.trod_int Tryz.underlying3 ht'
      subst q2
      refine ⟨s2, fun j u hu => ?_⟩
      have hj : j < 1 := (List.getElem?_eq_some_iff.1 hu).1
      have := hat j hj
      rw [← Go.Deep.add_add, this]
      exact hu
    obtain ⟨l, hll, hq⟩ := list_of len key
    refine ⟨l, hll.symm, hl, hll, by unfold maxLen at hm; omega, fun _ => ⟨a, rfl, fun j p hj => ⟨[Value.int .i64 p], rfl, rfl, ?_⟩⟩⟩
    exact hq j p hj
theorem open_strings22 {fuel : Nat} {A : Option Addr} {len cap : Nat} {x : DataW H × List MemPlace} (h : DataW.trod enc Tryz.prog w base (fun _ => true) held fuel 22 [.slice A len cap] = some x) :
    ∃ l : List ByteArray, len = l.length ∧ len ≤ cap ∧ Kd.C Kd.string w A len l := by
  rcases open_slice Tryz.underlying22 h with h0 | ⟨a, len', cap', m, n, D, Pl, hcs, hb, hl, hm, hmm, hx, hi⟩
  · obtain ⟨h0, _⟩ := h0
    simp only [List.cons.injEq, and_true, Value.slice.injEq] at h0
    obtain ⟨rfl, rfl, rfl⟩ := h0
    exact ⟨[], rfl, Nat.le_refl _, Kd.C_nil _ _⟩
  · simp only [List.cons.injEq, and_true, Value.slice.injEq] at hcs
    obtain ⟨rfl, rfl, rfl⟩ := hcs
    have key : ∀ i, i < len → ∃ p : ByteArray, ∀ j u, [Value.string p][j]? = some u → w.cell? (a.add (i * 1 + j)) = some u := by
      intro i hi2
      obtain ⟨cs', hc, ht'⟩ := hi i (by rw [hmm]; simp; omega)
      rw [show Tryz.prog.cellsOf 9 = 1 by kernel_rfl] at hc
      obtain ⟨_, hcl, hat⟩ := World.cells?_some hc
      obtain ⟨s2, q2, _⟩ := DataW.trod_string Tryz.underlying9 ht'
      subst q2
      refine ⟨s2, fun j u hu => ?_⟩
      have hj : j < 1 := (List.getElem?_eq_some_iff.1 hu).1
      have := hat j hj
      rw [← Go.Deep.add_add, this]
      exact hu
    obtain ⟨l, hll, hq⟩ := list_of len key
    refine ⟨l, hll.symm, hl, hll, by unfold maxLen at hm; omega, fun _ => ⟨a, rfl, fun j p hj => ⟨[Value.string p], rfl, rfl, ?_⟩⟩⟩
    exact hq j p hj
theorem u64_nonneg {n : Int} (h : (Lit.int .u64 n).wf = true) : 0 ≤ n := by
  have h2 : IntKind.u64.min ≤ n ∧ n ≤ IntKind.u64.max := by simpa [Lit.wf] using h
  exact h2.1
end
end Go.Proofs.YtanonhipicoigaaGreatDoor.U
namespace Go.Proofs.YtanonhipicoigaaGreatDoor.U
open Go.RowKit Go.Proofs.YtanonhipicoigaaGreatDoorW.PrintWords Go.Proofs.YtanonhipicoigaaGreatDoorW.PrintLast Go.Proofs.YtanonhipicoigaaGreatDoorW.PrintMore
set_option linter.unusedVariables false
set_option linter.unusedSimpArgs false
/-! ### The checksum -/
def crcBit (c : Int) : Int := bits .xor .u32 (c / 2) (bits .and .u32 3988292384 (-bits .and .u32 c 1 % 4294967296))
def crcN (c : Int) : Nat → Int
  | 0 => c
  | n + 1 => crcBit (crcN c n)
def crcTo (s : ByteArray) (c : Int) : Nat → Int
  | 0 => c
  | n + 1 => crcN (bits .xor .u32 (crcTo s c n) (bt s (n : Int))) 8
def crcF (c : Int) (s : ByteArray) : Int := crcTo s c s.size
theorem crcN_succ (c : Int) (n : Nat) : bits .xor .u32 (crcN c n / 2) (bits .and .u32 3988292384 (-bits .and .u32 (crcN c n) 1 % 4294967296)) = crcN c (n + 1) := rfl
set_option maxHeartbeats 1600000 in
theorem crc_any (c : Int) (s : ByteArray) (w : World) (hs : s.size ≤ 9223372036854775807) :
    Calls Tryz.prog 122 #[.int .u32 c, .string s] w fun e w' => e = .returned (.int .u32 (crcF c s)) ∧ Below w.heap.size w w' := by
  have kb := fun W => print_bytes (P := Tryz.prog) 9 147 5 Tryz.underlying9 Tryz.underlying147 Tryz.underlying5 s W
  go_enter Tryz.func122, Tryz.ntmps122
  go_wp2
  have HR := Aside0.mk (bytes_reads w 5 s (by omega))
  have HB := Aside0.mk (bytes_below (Below.refl w.heap.size w) (Nat.le_refl _) 5 s)
  go_loopw [0, 10] (fun v0 v10 wr => ∃ (i : Nat), v0 = .int .u32 (crcTo s c i) ∧ v10 = .int .i64 (i : Int) ∧ i ≤ s.size ∧ Aside0 (ReadsInt wr .u8 (some ⟨w.heap.size, 0, none⟩) s.size (bytesOf s)) ∧ Aside0 (Below w.heap.size w wr))
    (fun _ v10 _ => s.size - (intOf v10).toNat)
  case atStart => exact ⟨0, rfl, rfl, by omega, HR, HB⟩
  case round =>
    clear HR HB
    obtain ⟨i, rfl, rfl, hi, HR, HB⟩ := hrel
    by_cases hlt : i < s.size
    · obtain ⟨ad, he, hc⟩ := HR.out.at_ (i : Int) (by omega) (by omega)
      injection he with he
      subst he
      rw [add_plain] at hc
      simp only [Int.toNat_natCast, rd_bytesOf] at hc
      have hbr := bt_range s (i : Int)
      have h0 : (0 : Int) ≤ (i : Int) := by omega
      have h1 : (i : Int) < (s.size : Int) := by omega
      go_wp2
      go_loop [0, 18] (fun v0 v18 => ∃ (j : Nat), v0 = .int .u32 (crcN (bits .xor .u32 (crcTo s c i) (bt s (i : Int))) j) ∧ v18 = .int .i64 (j : Int) ∧ j ≤ 8) (fun _ v18 => 8 - (intOf v18).toNat)
      case atStart => exact ⟨0, rfl, rfl, by omega⟩
      case round =>
        obtain ⟨j, rfl, rfl, hj⟩ := hrel
        by_cases hl2 : j < 8
        · go_wp2
          exact ⟨⟨j + 1, by rw [crcN_succ], by congr 1, by omega⟩, by simp [intOf]; omega⟩
        · obtain rfl : j = 8 := by omega
          go_wp2
          exact ⟨⟨i + 1, rfl, by congr 1, by omega, HR, HB⟩, by simp [intOf]; omega⟩
    · obtain rfl : i = s.size := by omega
      go_wp2
      go_ret
      exact ⟨rfl, HB.out⟩
end Go.Proofs.YtanonhipicoigaaGreatDoor.U
set_option linter.unusedVariables false
set_option linter.unusedSimpArgs false
namespace Go.Proofs.YtanonhipicoigaaGreatDoor.Sp
open Go.RowKit Go.Proofs.YtanonhipicoigaaGreatDoorW.PrintWords Go.Proofs.YtanonhipicoigaaGreatDoorW.PrintLast Go.Proofs.YtanonhipicoigaaGreatDoorW.PrintMore
/-- A thing in memory: what it says of a world, and the blocks that it lies in. -/
structure Res where
  holds : World → Prop
  foot : Nat → Prop
  lives : ∀ {W W' : World}, (∀ g, foot g → g < W.heap.size → W'.heap[g]? = W.heap[g]?) → holds W → holds W'
  lt : ∀ {W : World} {g : Nat}, holds W → foot g → g < W.heap.size
/-- A block of the call's own, known whole. -/
def box (g : Nat) (cs : List Value) (t : TypeId) : Res where
  holds W := W.heap[g]? = some (.cells cs.toArray t (0, 0))
  foot k := k = g
  lives h hb := (h g rfl (blk_lt hb)).trans hb
  lt h e := by rw [e]; exact blk_lt h
/-- A block that is no cells (a map, an iterator), known whole. -/
def thing (g : Nat) (o : Obj) : Res where
  holds W := W.heap[g]? = some o
  foot k := k = g
  lives h hb := (h g rfl (blk_lt hb)).trans hb
  lt h e := by rw [e]; exact blk_lt h
/-- A row of the call's own. -/
def row {α : Type} (d : Kd α) (e : TypeId) (v : Value) (l : List α) : Res where
  holds W := d.R e W 0 (fun k => v.ownBlock = some k) v l
  foot k := v.ownBlock = some k
  lives h hr := Kd.R_step hr (fun k ho hlt => h k ho hlt)
  lt h e := by
    obtain ⟨inner, ho⟩ := Kd.R_own h
    exact own_lt ho _ e
/-- What a step turns at the most: the blocks of S, and what is new. -/
structure Upd (W W' : World) (S : Nat → Prop) : Prop where
  os : W'.os = W.os
  tape : W'.tape = W.tape
  output : W'.output = W.output
  size : W.heap.size ≤ W'.heap.size
  block : ∀ k, k < W.heap.size → ¬ S k → W'.heap[k]? = W.heap[k]?
theorem Upd.of_below {W W' : World} (h : Below W.heap.size W W') (S : Nat → Prop) : Upd W W' S := ⟨h.os, h.tape, h.output, h.size, fun k hk _ => h.block k hk⟩
theorem Upd.refl (W : World) (S : Nat → Prop) : Upd W W S := ⟨rfl, rfl, rfl, Nat.le_refl _, fun _ _ _ => rfl⟩
theorem Upd.trans {W W' W'' : World} {S S' : Nat → Prop} (h : Upd W W' S) (k : Upd W' W'' S') (hs : ∀ g, S' g → S g ∨ W.heap.size ≤ g) : Upd W W'' S :=
  ⟨k.os.trans h.os, k.tape.trans h.tape, k.output.trans h.output, Nat.le_trans h.size k.size, fun g hg hn => (k.block g (Nat.lt_of_lt_of_le hg h.size) (fun h2 => (hs g h2).elim hn (fun h3 => by omega))).trans (h.block g hg hn)⟩
theorem Upd.mono {W W' : World} {S S' : Nat → Prop} (h : Upd W W' S) (hs : ∀ g, S g → S' g) : Upd W W' S' := ⟨h.os, h.tape, h.output, h.size, fun k hk hn => h.block k hk (fun h2 => hn (hs k h2))⟩
theorem Upd.below {W W' : World} {S : Nat → Prop} (h : Upd W W' S) (hs : ∀ g, S g → W.heap.size ≤ g) : Below W.heap.size W W' := ⟨h.os, h.tape, h.output, h.size, fun k hk => h.block k hk (fun h2 => by have := hs k h2; omega)⟩
theorem Upd.setCell (W : World) (p : Addr) (v : Value) : Upd W (W.setCell p v) (fun k => k = p.block) := ⟨rfl, rfl, rfl, by simp [World.setCell], fun k _ hn => Below.heap_setCell W p v k hn⟩
theorem Upd.of_grown {W W' : World} {r : Option Nat} (h : W.grownBy W' r) : Upd W W' (fun k => r = some k) := ⟨h.os, h.tape, h.output, h.size, fun k hk hn => h.block k hk (fun e => hn e.symm)⟩
/-- Things in memory, apart from each other, all of the call's own; what lay there when the call began lies as it lay. -/
structure Sep (b W : World) (rs : List Res) : Prop where
  below : Below b.heap.size b W
  all : ∀ r, r ∈ rs → r.holds W
  base : ∀ r, r ∈ rs → ∀ g, r.foot g → b.heap.size ≤ g
  apart : rs.Pairwise (fun r s => ∀ g, r.foot g → ¬ s.foot g)
theorem Sep.start (b : World) : Sep b b [] := ⟨Below.refl _ _, by simp, by simp, .nil⟩
section
variable {b W W' : World} {rs rs' pre post : List Res} {r r' : Res}
theorem Sep.step (H : Sep b W rs) (h : Below W.heap.size W W') : Sep b W' rs :=
  ⟨below_then H.below H.below.size h, fun r hr => r.lives (fun g _ hl => h.block g hl) (H.all r hr), H.base, H.apart⟩
theorem Sep.drew (H : Sep b W rs) : Sep b W.drew rs := H.step (below_drew (Below.refl _ _))
theorem Sep.drewN (H : Sep b W rs) (n : Nat) : Sep b (W.drewN n) rs := H.step (pw_below_drewN (Below.refl _ _) n)
/-- New things. -/
theorem Sep.news (H : Sep b W rs) (h : Below W.heap.size W W') (hn : ∀ r, r ∈ rs' → r.holds W' ∧ ∀ g, r.foot g → W.heap.size ≤ g) (ha : rs'.Pairwise (fun r s => ∀ g, r.foot g → ¬ s.foot g)) : Sep b W' (rs' ++ rs) := by
  have H' := H.step h
  refine ⟨H'.below, fun r hr => ?_, fun r hr g hg => ?_, List.pairwise_append.2 ⟨ha, H.apart, fun r hr s hs g hg hg' => ?_⟩⟩
  · rcases List.mem_append.1 hr with hr | hr
    · exact (hn r hr).1
    · exact H'.all r hr
  · rcases List.mem_append.1 hr with hr | hr
    · exact Nat.le_trans H.below.size ((hn r hr).2 g hg)
    · exact H.base r hr g hg
  · have h1 := (hn r hr).2 g hg
    have h2 := s.lt (H.all s hs) hg'
    omega
theorem Sep.push (H : Sep b W rs) (h : Below W.heap.size W W') (r : Res) (hr : r.holds W') (hf : ∀ g, r.foot g → W.heap.size ≤ g) : Sep b W' (r :: rs) :=
  H.news (rs' := [r]) h (fun s hs => by rw [List.mem_singleton.1 hs]; exact ⟨hr, hf⟩) (List.pairwise_singleton _ _)
theorem Sep.alloc (H : Sep b W rs) (cs : List Value) (t : TypeId) : Sep b (W.alloc (.cells cs.toArray t (0, 0))) (box W.heap.size cs t :: rs) :=
  H.push (below_alloc (Below.refl _ _) _) _ (blk_new W _) (fun g hg => by rw [show g = W.heap.size from hg]; exact Nat.le_refl _)
theorem Sep.drop (H : Sep b W (pre ++ r :: post)) : Sep b W (pre ++ post) := by
  have hs : (pre ++ post).Sublist (pre ++ r :: post) := List.Sublist.append (List.Sublist.refl _) (List.sublist_cons_self _ _)
  exact ⟨H.below, fun s hm => H.all s (hs.subset hm), fun s hm => H.base s (hs.subset hm), H.apart.sublist hs⟩
theorem Sep.perm (H : Sep b W rs) (h : rs.Perm rs') : Sep b W rs' := ⟨H.below, fun s hm => H.all s (h.mem_iff.2 hm), fun s hm => H.base s (h.mem_iff.2 hm), (h.pairwise_iff (fun hxy g hg hg' => hxy g hg' hg)).1 H.apart⟩
/-- One thing turns. -/
theorem Sep.upd (H : Sep b W (pre ++ r :: post)) (h : Upd W W' r.foot) (hr : r'.holds W') (hf : ∀ g, r'.foot g → r.foot g ∨ W.heap.size ≤ g) : Sep b W' (pre ++ r' :: post) := by
  have hr0 : r ∈ pre ++ r :: post := by simp
  have hap := List.pairwise_append.1 H.apart
  have hap2 := List.pairwise_cons.1 hap.2.1
  have hother : ∀ s, s ∈ pre ++ post → (∀ g, r.foot g → ¬ s.foot g) ∧ s.holds W := by
    intro s hs
    rcases List.mem_append.1 hs with hs | hs
    · exact ⟨fun g hg hg' => hap.2.2 s hs r (by simp) g hg' hg, H.all s (by simp [hs])⟩
    · exact ⟨fun g hg hg' => hap2.1 s hs g hg hg', H.all s (by simp [hs])⟩
  have hkeep : ∀ s, s ∈ pre ++ post → s.holds W' := fun s hs => s.lives (fun g hg hl => h.block g hl (fun h2 => (hother s hs).1 g h2 hg)) (hother s hs).2
  have hnew : ∀ s, s ∈ pre ++ post → ∀ g, r'.foot g → ¬ s.foot g := fun s hs g hg hg' => (hf g hg).elim (fun h2 => (hother s hs).1 g h2 hg') (fun h2 => by have := s.lt (hother s hs).2 hg'; omega)
  refine ⟨?_, ?_, ?_, List.pairwise_append.2 ⟨hap.1, List.pairwise_cons.2 ⟨fun s hs => hnew s (by simp [hs]), hap2.2⟩, ?_⟩⟩
  · exact H.below.trans ⟨h.os, h.tape, h.output, h.size, fun k hk => h.block k (Nat.lt_of_lt_of_le hk H.below.size) (fun h2 => by have := H.base r hr0 k h2; omega)⟩
  · intro s hs
    rcases List.mem_append.1 hs with hs | hs
    · exact hkeep s (by simp [hs])
    · rcases List.mem_cons.1 hs with rfl | hs
      · exact hr
      · exact hkeep s (by simp [hs])
  · intro s hs g hg
    rcases List.mem_append.1 hs with hs | hs
    · exact H.base s (by simp [hs]) g hg
    · rcases List.mem_cons.1 hs with rfl | hs
      · rcases hf g hg with h2 | h2
        · exact H.base r hr0 g h2
        · exact Nat.le_trans H.below.size h2
      · exact H.base s (by simp [hs]) g hg
  · intro s hs t ht g hg hg'
    rcases List.mem_cons.1 ht with rfl | ht
    · exact hnew s (by simp [hs]) g hg' hg
    · exact hap.2.2 s hs t (by simp [ht]) g hg hg'
/-- A store into a box. -/
theorem Sep.set {g : Nat} {cs cs' : List Value} {t : TypeId} (H : Sep b W (pre ++ box g cs t :: post)) (j : Nat) (v : Value) (e : cs.set j v = cs') : Sep b (W.setCell ⟨g, j, none⟩ v) (pre ++ box g cs' t :: post) := by
  refine H.upd (r' := box g cs' t) (Upd.setCell W _ v) ?_ (fun k hk => .inl hk)
  have hb : W.heap[g]? = some (.cells cs.toArray t (0, 0)) := H.all (box g cs t) (by simp)
  show (W.setCell ⟨g, j, none⟩ v).heap[g]? = some (.cells cs'.toArray t (0, 0))
  exact blk_put hb j v (by rw [← e]; simp)
theorem Sep.box_ {g : Nat} {cs : List Value} {t : TypeId} (H : Sep b W rs) (hm : box g cs t ∈ rs) : W.heap[g]? = some (.cells cs.toArray t (0, 0)) := H.all _ hm
theorem Sep.cell {g : Nat} {cs : List Value} {t : TypeId} (H : Sep b W rs) (hm : box g cs t ∈ rs) (j : Nat) : W.cell? ⟨g, j, none⟩ = cs[j]? := by
  rw [blk_cell (H.box_ hm) j]; simp
theorem Sep.frozen {g : Nat} {cs : List Value} {t : TypeId} (H : Sep b W rs) (hm : box g cs t ∈ rs) (j : Nat) : W.frozen? ⟨g, j, none⟩ = false := blk_frozen (H.box_ hm) j
theorem Sep.row_ {α : Type} {d : Kd α} {e : TypeId} {v : Value} {l : List α} (H : Sep b W rs) (hm : row d e v l ∈ rs) : d.R e W 0 (fun k => v.ownBlock = some k) v l := H.all _ hm
theorem Sep.reads {α : Type} {d : Kd α} {e : TypeId} {A : Option Addr} {n c : Nat} {l : List α} (H : Sep b W rs) (hm : row d e (.slice A n c) l ∈ rs) : n = l.length ∧ l.length ≤ c ∧ d.C W A l.length l := by
  have h := Kd.R_reads' (H.row_ hm)
  obtain ⟨rfl, h2, h3⟩ := h
  exact ⟨rfl, h2, h3⟩
theorem Sep.came {α : Type} {d : Kd α} {A : Option Addr} {n : Nat} {l : List α} (H : Sep b W rs) (h : d.C b A n l) : d.C W A n l := Kd.C_below h H.below
end
/-! ### Members -/
theorem mem0 {r : Res} {post : List Res} : r ∈ r :: post := by simp
theorem Sep.upd0 {b W W' : World} {r r' : Res} {post : List Res} (H : Sep b W (r :: post)) (h : Upd W W' r.foot) (hr : r'.holds W') (hf : ∀ g, r'.foot g → r.foot g ∨ W.heap.size ≤ g) : Sep b W' (r' :: post) := Sep.upd (pre := []) H h hr hf
theorem Sep.set0 {b W : World} {post : List Res} {g : Nat} {cs cs' : List Value} {t : TypeId} (H : Sep b W (box g cs t :: post)) (j : Nat) (v : Value) (e : cs.set j v = cs') : Sep b (W.setCell ⟨g, j, none⟩ v) (box g cs' t :: post) := Sep.set (pre := []) H j v e
theorem Sep.drop0 {b W : World} {r : Res} {post : List Res} (H : Sep b W (r :: post)) : Sep b W (post) := Sep.drop (pre := []) H
theorem mem1 {r0 : Res} {r : Res} {post : List Res} : r ∈ r0 :: r :: post := by simp
theorem Sep.set1 {b W : World} {r0 : Res} {post : List Res} {g : Nat} {cs cs' : List Value} {t : TypeId} (H : Sep b W (r0 :: box g cs t :: post)) (j : Nat) (v : Value) (e : cs.set j v = cs') : Sep b (W.setCell ⟨g, j, none⟩ v) (r0 :: box g cs' t :: post) := Sep.set (pre := [r0]) H j v e
theorem Sep.front1 {b W : World} {r0 : Res} {r : Res} {post : List Res} (H : Sep b W (r0 :: r :: post)) : Sep b W (r :: r0 :: post) := H.perm (List.perm_middle (l₁ := [r0]) (a := r) (l₂ := post))
theorem Sep.drop1 {b W : World} {r0 : Res} {r : Res} {post : List Res} (H : Sep b W (r0 :: r :: post)) : Sep b W (r0 :: post) := Sep.drop (pre := [r0]) H
theorem mem2 {r0 r1 : Res} {r : Res} {post : List Res} : r ∈ r0 :: r1 :: r :: post := by simp
theorem Sep.set2 {b W : World} {r0 r1 : Res} {post : List Res} {g : Nat} {cs cs' : List Value} {t : TypeId} (H : Sep b W (r0 :: r1 :: box g cs t :: post)) (j : Nat) (v : Value) (e : cs.set j v = cs') : Sep b (W.setCell ⟨g, j, none⟩ v) (r0 :: r1 :: box g cs' t :: post) := Sep.set (pre := [r0, r1]) H j v e
theorem Sep.front2 {b W : World} {r0 r1 : Res} {r : Res} {post : List Res} (H : Sep b W (r0 :: r1 :: r :: post)) : Sep b W (r :: r0 :: r1 :: post) := H.perm (List.perm_middle (l₁ := [r0, r1]) (a := r) (l₂ := post))
theorem Sep.drop2 {b W : World} {r0 r1 : Res} {r : Res} {post : List Res} (H : Sep b W (r0 :: r1 :: r :: post)) : Sep b W (r0 :: r1 :: post) := Sep.drop (pre := [r0, r1]) H
theorem mem3 {r0 r1 r2 : Res} {r : Res} {post : List Res} : r ∈ r0 :: r1 :: r2 :: r :: post := by simp
theorem Sep.set3 {b W : World} {r0 r1 r2 : Res} {post : List Res} {g : Nat} {cs cs' : List Value} {t : TypeId} (H : Sep b W (r0 :: r1 :: r2 :: box g cs t :: post)) (j : Nat) (v : Value) (e : cs.set j v = cs') : Sep b (W.setCell ⟨g, j, none⟩ v) (r0 :: r1 :: r2 :: box g cs' t :: post) := Sep.set (pre := [r0, r1, r2]) H j v e
theorem Sep.front3 {b W : World} {r0 r1 r2 : Res} {r : Res} {post : List Res} (H : Sep b W (r0 :: r1 :: r2 :: r :: post)) : Sep b W (r :: r0 :: r1 :: r2 :: post) := H.perm (List.perm_middle (l₁ := [r0, r1, r2]) (a := r) (l₂ := post))
theorem Sep.drop3 {b W : World} {r0 r1 r2 : Res} {r : Res} {post : List Res} (H : Sep b W (r0 :: r1 :: r2 :: r :: post)) : Sep b W (r0 :: r1 :: r2 :: post) := Sep.drop (pre := [r0, r1, r2]) H
theorem mem4 {r0 r1 r2 r3 : Res} {r : Res} {post : List Res} : r ∈ r0 :: r1 :: r2 :: r3 :: r :: post := by simp
theorem Sep.set4 {b W : World} {r0 r1 r2 r3 : Res} {post : List Res} {g : Nat} {cs cs' : List Value} {t : TypeId} (H : Sep b W (r0 :: r1 :: r2 :: r3 :: box g cs t :: post)) (j : Nat) (v : Value) (e : cs.set j v = cs') : Sep b (W.setCell ⟨g, j, none⟩ v) (r0 :: r1 :: r2 :: r3 :: box g cs' t :: post) := Sep.set (pre := [r0, r1, r2, r3]) H j v e
theorem Sep.front4 {b W : World} {r0 r1 r2 r3 : Res} {r : Res} {post : List Res} (H : Sep b W (r0 :: r1 :: r2 :: r3 :: r :: post)) : Sep b W (r :: r0 :: r1 :: r2 :: r3 :: post) := H.perm (List.perm_middle (l₁ := [r0, r1, r2, r3]) (a := r) (l₂ := post))
theorem Sep.drop4 {b W : World} {r0 r1 r2 r3 : Res} {r : Res} {post : List Res} (H : Sep b W (r0 :: r1 :: r2 :: r3 :: r :: post)) : Sep b W (r0 :: r1 :: r2 :: r3 :: post) := Sep.drop (pre := [r0, r1, r2, r3]) H
theorem mem5 {r0 r1 r2 r3 r4 : Res} {r : Res} {post : List Res} : r ∈ r0 :: r1 :: r2 :: r3 :: r4 :: r :: post := by simp
theorem Sep.set5 {b W : World} {r0 r1 r2 r3 r4 : Res} {post : List Res} {g : Nat} {cs cs' : List Value} {t : TypeId} (H : Sep b W (r0 :: r1 :: r2 :: r3 :: r4 :: box g cs t :: post)) (j : Nat) (v : Value) (e : cs.set j v = cs') : Sep b (W.setCell ⟨g, j, none⟩ v) (r0 :: r1 :: r2 :: r3 :: r4 :: box g cs' t :: post) := Sep.set (pre := [r0, r1, r2, r3, r4]) H j v e
theorem Sep.front5 {b W : World} {r0 r1 r2 r3 r4 : Res} {r : Res} {post : List Res} (H : Sep b W (r0 :: r1 :: r2 :: r3 :: r4 :: r :: post)) : Sep b W (r :: r0 :: r1 :: r2 :: r3 :: r4 :: post) := H.perm (List.perm_middle (l₁ := [r0, r1, r2, r3, r4]) (a := r) (l₂ := post))
theorem Sep.drop5 {b W : World} {r0 r1 r2 r3 r4 : Res} {r : Res} {post : List Res} (H : Sep b W (r0 :: r1 :: r2 :: r3 :: r4 :: r :: post)) : Sep b W (r0 :: r1 :: r2 :: r3 :: r4 :: post) := Sep.drop (pre := [r0, r1, r2, r3, r4]) H
theorem mem6 {r0 r1 r2 r3 r4 r5 : Res} {r : Res} {post : List Res} : r ∈ r0 :: r1 :: r2 :: r3 :: r4 :: r5 :: r :: post := by simp
theorem Sep.set6 {b W : World} {r0 r1 r2 r3 r4 r5 : Res} {post : List Res} {g : Nat} {cs cs' : List Value} {t : TypeId} (H : Sep b W (r0 :: r1 :: r2 :: r3 :: r4 :: r5 :: box g cs t :: post)) (j : Nat) (v : Value) (e : cs.set j v = cs') : Sep b (W.setCell ⟨g, j, none⟩ v) (r0 :: r1 :: r2 :: r3 :: r4 :: r5 :: box g cs' t :: post) := Sep.set (pre := [r0, r1, r2, r3, r4, r5]) H j v e
theorem Sep.front6 {b W : World} {r0 r1 r2 r3 r4 r5 : Res} {r : Res} {post : List Res} (H : Sep b W (r0 :: r1 :: r2 :: r3 :: r4 :: r5 :: r :: post)) : Sep b W (r :: r0 :: r1 :: r2 :: r3 :: r4 :: r5 :: post) := H.perm (List.perm_middle (l₁ := [r0, r1, r2, r3, r4, r5]) (a := r) (l₂ := post))
theorem Sep.drop6 {b W : World} {r0 r1 r2 r3 r4 r5 : Res} {r : Res} {post : List Res} (H : Sep b W (r0 :: r1 :: r2 :: r3 :: r4 :: r5 :: r :: post)) : Sep b W (r0 :: r1 :: r2 :: r3 :: r4 :: r5 :: post) := Sep.drop (pre := [r0, r1, r2, r3, r4, r5]) H
theorem mem7 {r0 r1 r2 r3 r4 r5 r6 : Res} {r : Res} {post : List Res} : r ∈ r0 :: r1 :: r2 :: r3 :: r4 :: r5 :: r6 :: r :: post := by simp
theorem Sep.set7 {b W : World} {r0 r1 r2 r3 r4 r5 r6 : Res} {post : List Res} {g : Nat} {cs cs' : List Value} {t : TypeId} (H : Sep b W (r0 :: r1 :: r2 :: r3 :: r4 :: r5 :: r6 :: box g cs t :: post)) (j : Nat) (v : Value) (e : cs.set j v = cs') : Sep b (W.setCell ⟨g, j, none⟩ v) (r0 :: r1 :: r2 :: r3 :: r4 :: r5 :: r6 :: box g cs' t :: post) := Sep.set (pre := [r0, r1, r2, r3, r4, r5, r6]) H j v e
theorem Sep.front7 {b W : World} {r0 r1 r2 r3 r4 r5 r6 : Res} {r : Res} {post : List Res} (H : Sep b W (r0 :: r1 :: r2 :: r3 :: r4 :: r5 :: r6 :: r :: post)) : Sep b W (r :: r0 :: r1 :: r2 :: r3 :: r4 :: r5 :: r6 :: post) := H.perm (List.perm_middle (l₁ := [r0, r1, r2, r3, r4, r5, r6]) (a := r) (l₂ := post))
theorem Sep.drop7 {b W : World} {r0 r1 r2 r3 r4 r5 r6 : Res} {r : Res} {post : List Res} (H : Sep b W (r0 :: r1 :: r2 :: r3 :: r4 :: r5 :: r6 :: r :: post)) : Sep b W (r0 :: r1 :: r2 :: r3 :: r4 :: r5 :: r6 :: post) := Sep.drop (pre := [r0, r1, r2, r3, r4, r5, r6]) H
theorem mem8 {r0 r1 r2 r3 r4 r5 r6 r7 : Res} {r : Res} {post : List Res} : r ∈ r0 :: r1 :: r2 :: r3 :: r4 :: r5 :: r6 :: r7 :: r :: post := by simp
theorem Sep.drop8 {b W : World} {r0 r1 r2 r3 r4 r5 r6 r7 : Res} {r : Res} {post : List Res} (H : Sep b W (r0 :: r1 :: r2 :: r3 :: r4 :: r5 :: r6 :: r7 :: r :: post)) : Sep b W (r0 :: r1 :: r2 :: r3 :: r4 :: r5 :: r6 :: r7 :: post) := Sep.drop (pre := [r0, r1, r2, r3, r4, r5, r6, r7]) H
theorem mem9 {r0 r1 r2 r3 r4 r5 r6 r7 r8 : Res} {r : Res} {post : List Res} : r ∈ r0 :: r1 :: r2 :: r3 :: r4 :: r5 :: r6 :: r7 :: r8 :: r :: post := by simp
theorem Sep.drop9 {b W : World} {r0 r1 r2 r3 r4 r5 r6 r7 r8 : Res} {r : Res} {post : List Res} (H : Sep b W (r0 :: r1 :: r2 :: r3 :: r4 :: r5 :: r6 :: r7 :: r8 :: r :: post)) : Sep b W (r0 :: r1 :: r2 :: r3 :: r4 :: r5 :: r6 :: r7 :: r8 :: post) := Sep.drop (pre := [r0, r1, r2, r3, r4, r5, r6, r7, r8]) H
section
variable {P : Program} {ops : Array Oper} {rest : List Oper} {o : Oper} {a : Act} {Q : Exit → Act → World → Prop} {b W : World} {rs : List Res}
/-- A new box. -/
theorem new_box (hgd : o.guard = none) (H : Aside0 (Sep b W rs)) {cs : List Value} {t : TypeId}
    (hrun : (execOp a.eval o).run P W = .ok (.value (.pointer (some ⟨W.heap.size, 0, none⟩))) (W.alloc (.cells cs.toArray t (0, 0))))
    (h : ∀ g W', Aside0 (Sep b W' (box g cs t :: rs)) → wpList P ops Q rest (a.put o.dst (.pointer (some ⟨g, 0, none⟩))) W') : wpList P ops Q (o :: rest) a W :=
  Kd.event_run hgd hrun (h _ _ ⟨H.out.alloc cs t⟩)
/-- A store into a box, the world behind it under a name of its own. -/
theorem put_box {W1 : World} {rs1 : List Res} (hgd : o.guard = none) {t : TypeId} {p : Tmp} {v : Operand} (_ho : o.op = .store t (.tmp p) v) (hN : o.dst = none) (hrun : (execOp a.eval o).run P W = .ok .skip W1) (H1 : Sep b W1 rs1)
    (h : ∀ W', Aside0 (Sep b W' rs1) → wpList P ops Q rest a W') : wpList P ops Q (o :: rest) a W :=
  store_event hgd _ho hN hrun fun W' e => h W' ⟨by rw [e]; exact H1⟩
theorem gen_k {K : Act → World → Prop} {W1 : World} (H1 : Sep b W1 rs) (h : ∀ W', Aside0 (Sep b W' rs) → K a W') : K a W1 := h W1 ⟨H1⟩
theorem gen_code {W1 : World} {c : Code} (H1 : Sep b W1 rs) (h : ∀ W', Aside0 (Sep b W' rs) → Code.wp P c Q a W') : Code.wp P c Q a W1 := h W1 ⟨H1⟩
end
section
variable {α : Type} {d : Kd α} {b W W' : World} {rs : List Res} {e base : Nat} {ok : Nat → Prop} {v : Value} {l : List α}
/-- A row of flat elements that a call hands back. -/
theorem Sep.push_row (H : Sep b W rs) (hb : Below W.heap.size W W') (ho : d.R e W' W.heap.size ok v l) (hd : ∀ {ok1 ok2 : Nat → Prop} {x : α} {cs : List Value}, d.M W' 0 ok1 x cs → d.M W' 0 ok2 x cs) : Sep b W' (row d e v l :: rs) := by
  refine H.push hb (row d e v l) (Kd.R_flat hd (Kd.R_lower ho (Nat.zero_le _)) (fun k hk _ => hk)) (fun g hg => ?_)
  obtain ⟨inner, hown⟩ := Kd.R_own ho
  exact own_base hown g hg
theorem Sep.push_nil (H : Sep b W rs) : Sep b W (row d e (.slice none 0 0) [] :: rs) :=
  H.push (Below.refl _ _) _ (Kd.R_nil _ _ _ _ _) (fun g hg => by simp [row, Value.ownBlock] at hg)
end
section
variable {P : Program} {ops : Array Oper} {rest : List Oper} {o : Oper} {a : Act} {Q : Exit → Act → World → Prop} {b W : World} {α : Type}
def Flat (d : Kd α) : Prop := ∀ {W : World} {ok1 ok2 : Nat → Prop} {x : α} {cs : List Value}, d.M W 0 ok1 x cs → d.M W 0 ok2 x cs
theorem app_row (d : Kd α) (hd : Flat d) (pre post : List Res) (hgd : o.guard = none) (s x : Operand) (t e : TypeId) (z : Value) (bytes : Nat)
    (ho : o.op = .call { callee := .builtin .append, args := #[s, x], argTypes := #[t, t] })
    (ht : P.underlying t = some (.slice e)) (hinfo : (P.info? e).map (fun i => (i.zero, i.size, i.bytes)) = some (some z, d.sz, bytes)) (hz : z.cells.size = d.sz) (hs0 : 0 < d.sz) (hb0 : 0 < bytes)
    (v : Value) (xs : List α) (p : α) (cs : List Value) (hs : a.eval s = v) (hx : a.eval x = .slice (some ⟨W.heap.size, 0, none⟩) 1 1) (hp : d.M W 0 (fun _ => False) p cs)
    (H : Aside0 (Sep b W (pre ++ row d e v xs :: post))) (hl : (xs.length + 1) * bytes ≤ 140737488355328)
    (h : ∀ A1 c1 W', Aside0 (Sep b W' (pre ++ row d e (.slice A1 (xs ++ [p]).length c1) (xs ++ [p]) :: post)) → wpList P ops Q rest (a.put o.dst (.slice A1 (xs ++ [p]).length c1)) W') :
    wpList P ops Q (o :: rest) a (W.alloc (.cells cs.toArray e)) := by
  have hr : d.R e W 0 (fun k => v.ownBlock = some k) v xs := H.out.all (row d e v xs) (by simp)
  refine Kd.R_append d (w0 := W) 0 hgd s x t e z bytes ho ht hinfo hz hs0 hb0 v xs p cs (fun k => v.ownBlock = some k ∨ W.heap.size ≤ k) (fun _ => False) hs hx hp (fun _ hk => hk.elim) (fun k hk => .inr hk)
    (Kd.R_mono hr (fun k hk => .inl hk)) (Below.refl _ _) (Nat.zero_le _) hl ?_
  intro v1 w1 ho1 _ hg hat
  obtain ⟨A1, c1, rfl⟩ := Kd.R_slice ho1
  refine h A1 c1 w1 ⟨H.out.upd (r' := row d e (.slice A1 (xs ++ [p]).length c1) (xs ++ [p])) (Upd.of_grown hg) (Kd.R_flat hd ho1 (fun k hk _ => hk)) (fun k hk => ?_)⟩
  have hk' : (Value.slice A1 (xs ++ [p]).length c1).ownBlock = some k := hk
  rcases hat with e1 | ⟨b1, e1, hb1⟩
  · exact .inl (show v.ownBlock = some k by rw [← e1]; exact hk')
  · rw [e1] at hk'
    injection hk' with hk'
    exact .inr (by omega)
theorem flat_int (k : IntKind) : Flat (Kd.int k) := fun h => h
end
theorem app_row0 {P : Program} {ops : Array Oper} {rest : List Oper} {o : Oper} {a : Act} {Q : Exit → Act → World → Prop} {b W : World} {α : Type} {post : List Res} (d : Kd α) (hd : Flat d) (hgd : o.guard = none) (s x : Operand) (t e : TypeId) (z : Value) (bytes : Nat)
    (ho : o.op = .call { callee := .builtin .append, args := #[s, x], argTypes := #[t, t] })
    (ht : P.underlying t = some (.slice e)) (hinfo : (P.info? e).map (fun i => (i.zero, i.size, i.bytes)) = some (some z, d.sz, bytes)) (hz : z.cells.size = d.sz) (hs0 : 0 < d.sz) (hb0 : 0 < bytes)
    (v : Value) (xs : List α) (p : α) (cs : List Value) (hs : a.eval s = v) (hx : a.eval x = .slice (some ⟨W.heap.size, 0, none⟩) 1 1) (hp : d.M W 0 (fun _ => False) p cs)
    (H : Aside0 (Sep b W (row d e v xs :: post))) (hl : (xs.length + 1) * bytes ≤ 140737488355328)
    (h : ∀ A1 c1 W', Aside0 (Sep b W' (row d e (.slice A1 (xs ++ [p]).length c1) (xs ++ [p]) :: post)) → wpList P ops Q rest (a.put o.dst (.slice A1 (xs ++ [p]).length c1)) W') :
    wpList P ops Q (o :: rest) a (W.alloc (.cells cs.toArray e)) := app_row d hd [] post hgd s x t e z bytes ho ht hinfo hz hs0 hb0 v xs p cs hs hx hp H hl h
theorem app_row2 {P : Program} {ops : Array Oper} {rest : List Oper} {o : Oper} {a : Act} {Q : Exit → Act → World → Prop} {b W : World} {α : Type} {r0 r1 : Res} {post : List Res} (d : Kd α) (hd : Flat d) (hgd : o.guard = none) (s x : Operand) (t e : TypeId) (z : Value) (bytes : Nat)
    (ho : o.op = .call { callee := .builtin .append, args := #[s, x], argTypes := #[t, t] })
    (ht : P.underlying t = some (.slice e)) (hinfo : (P.info? e).map (fun i => (i.zero, i.size, i.bytes)) = some (some z, d.sz, bytes)) (hz : z.cells.size = d.sz) (hs0 : 0 < d.sz) (hb0 : 0 < bytes)
    (v : Value) (xs : List α) (p : α) (cs : List Value) (hs : a.eval s = v) (hx : a.eval x = .slice (some ⟨W.heap.size, 0, none⟩) 1 1) (hp : d.M W 0 (fun _ => False) p cs)
    (H : Aside0 (Sep b W (r0 :: r1 :: row d e v xs :: post))) (hl : (xs.length + 1) * bytes ≤ 140737488355328)
    (h : ∀ A1 c1 W', Aside0 (Sep b W' (r0 :: r1 :: row d e (.slice A1 (xs ++ [p]).length c1) (xs ++ [p]) :: post)) → wpList P ops Q rest (a.put o.dst (.slice A1 (xs ++ [p]).length c1)) W') :
    wpList P ops Q (o :: rest) a (W.alloc (.cells cs.toArray e)) := app_row d hd [r0, r1] post hgd s x t e z bytes ho ht hinfo hz hs0 hb0 v xs p cs hs hx hp H hl h
theorem app_row3 {P : Program} {ops : Array Oper} {rest : List Oper} {o : Oper} {a : Act} {Q : Exit → Act → World → Prop} {b W : World} {α : Type} {r0 r1 r2 : Res} {post : List Res} (d : Kd α) (hd : Flat d) (hgd : o.guard = none) (s x : Operand) (t e : TypeId) (z : Value) (bytes : Nat)
    (ho : o.op = .call { callee := .builtin .append, args := #[s, x], argTypes := #[t, t] })
    (ht : P.underlying t = some (.slice e)) (hinfo : (P.info? e).map (fun i => (i.zero, i.size, i.bytes)) = some (some z, d.sz, bytes)) (hz : z.cells.size = d.sz) (hs0 : 0 < d.sz) (hb0 : 0 < bytes)
    (v : Value) (xs : List α) (p : α) (cs : List Value) (hs : a.eval s = v) (hx : a.eval x = .slice (some ⟨W.heap.size, 0, none⟩) 1 1) (hp : d.M W 0 (fun _ => False) p cs)
    (H : Aside0 (Sep b W (r0 :: r1 :: r2 :: row d e v xs :: post))) (hl : (xs.length + 1) * bytes ≤ 140737488355328)
    (h : ∀ A1 c1 W', Aside0 (Sep b W' (r0 :: r1 :: r2 :: row d e (.slice A1 (xs ++ [p]).length c1) (xs ++ [p]) :: post)) → wpList P ops Q rest (a.put o.dst (.slice A1 (xs ++ [p]).length c1)) W') :
    wpList P ops Q (o :: rest) a (W.alloc (.cells cs.toArray e)) := app_row d hd [r0, r1, r2] post hgd s x t e z bytes ho ht hinfo hz hs0 hb0 v xs p cs hs hx hp H hl h
theorem app_row4 {P : Program} {ops : Array Oper} {rest : List Oper} {o : Oper} {a : Act} {Q : Exit → Act → World → Prop} {b W : World} {α : Type} {r0 r1 r2 r3 : Res} {post : List Res} (d : Kd α) (hd : Flat d) (hgd : o.guard = none) (s x : Operand) (t e : TypeId) (z : Value) (bytes : Nat)
    (ho : o.op = .call { callee := .builtin .append, args := #[s, x], argTypes := #[t, t] })
    (ht : P.underlying t = some (.slice e)) (hinfo : (P.info? e).map (fun i => (i.zero, i.size, i.bytes)) = some (some z, d.sz, bytes)) (hz : z.cells.size = d.sz) (hs0 : 0 < d.sz) (hb0 : 0 < bytes)
    (v : Value) (xs : List α) (p : α) (cs : List Value) (hs : a.eval s = v) (hx : a.eval x = .slice (some ⟨W.heap.size, 0, none⟩) 1 1) (hp : d.M W 0 (fun _ => False) p cs)
    (H : Aside0 (Sep b W (r0 :: r1 :: r2 :: r3 :: row d e v xs :: post))) (hl : (xs.length + 1) * bytes ≤ 140737488355328)
    (h : ∀ A1 c1 W', Aside0 (Sep b W' (r0 :: r1 :: r2 :: r3 :: row d e (.slice A1 (xs ++ [p]).length c1) (xs ++ [p]) :: post)) → wpList P ops Q rest (a.put o.dst (.slice A1 (xs ++ [p]).length c1)) W') :
    wpList P ops Q (o :: rest) a (W.alloc (.cells cs.toArray e)) := app_row d hd [r0, r1, r2, r3] post hgd s x t e z bytes ho ht hinfo hz hs0 hb0 v xs p cs hs hx hp H hl h
/-! ### make, copy, bytes as a text: a row of bytes as a box -/
theorem setRow_upd (W : World) (g : Nat) (cs : Array Value) : Upd W (W.setRow g cs) (fun k => k = g) :=
  ⟨rfl, rfl, rfl, by simp [World.setRow], fun k _ hn => setRow_other W g k cs (fun e => hn (by omega))⟩
theorem setRow_box {W : World} {g : Nat} {cs : List Value} {t : TypeId} (h : W.heap[g]? = some (.cells cs.toArray t (0, 0))) (cs' : List Value) : (W.setRow g cs'.toArray).heap[g]? = some (.cells cs'.toArray t (0, 0)) := setRow_heap W g cs.toArray cs'.toArray t (0, 0) h
theorem Sep.setRow {b W : World} {pre post : List Res} {g : Nat} {cs : List Value} {t : TypeId} (H : Sep b W (pre ++ box g cs t :: post)) (cs' : List Value) : Sep b (W.setRow g cs'.toArray) (pre ++ box g cs' t :: post) :=
  H.upd (r' := box g cs' t) (setRow_upd W g _) (setRow_box (H.all (box g cs t) (by simp)) cs') (fun k hk => .inl hk)
theorem box_C {W : World} {g : Nat} {xs : List Int} {t : TypeId} {k : IntKind} (h : W.heap[g]? = some (.cells (nums k xs).toArray t (0, 0))) (hx : xs.length ≤ 9223372036854775807) : (Kd.int k).C W (some ⟨g, 0, none⟩) xs.length xs := by
  refine ⟨rfl, hx, fun _ => ⟨_, rfl, fun j p hj => ⟨[.int k p], rfl, rfl, fun i u hu => ?_⟩⟩⟩
  have hi : i = 0 := by
    have := (List.getElem?_eq_some_iff.1 hu).1
    simpa using this
  subst hi
  simp only [List.getElem?_cons_zero, Option.some.injEq] at hu
  subst hu
  show W.cell? ((⟨g, 0, none⟩ : Addr).add (j * 1 + 0)) = _
  rw [add_plain, blk_cell h]
  simp [nums, hj]
section
variable {P : Program} {ops : Array Oper} {rest : List Oper} {o : Oper} {a : Act} {Q : Exit → Act → World → Prop} {b W : World} {rs : List Res}
/-- make([]T, n): the cells are zeros. -/
theorem make_box (hgd : o.guard = none) {t e : TypeId} {x y : Operand} (ho : o.op = .makeSlice t x y) (z : Value) (bytes : Nat) (ht : P.underlying t = some (.slice e)) (hinfo : (P.info? e).map (fun i => (i.zero, i.size, i.bytes)) = some (some z, 1, bytes)) (hz : z.cells = #[z]) (hb0 : 0 < bytes)
    (n : Nat) (hx : a.eval x = .int .i64 (n : Int)) (hy : a.eval y = .int .i64 (n : Int)) (hn : n * bytes ≤ 281474976710656) (H : Aside0 (Sep b W rs))
    (h : ∀ g W', Aside0 (Sep b W' (box g (List.replicate n z) e :: rs)) → wpList P ops Q rest (a.put o.dst (.slice (some ⟨g, 0, none⟩) n n)) W') : wpList P ops Q (o :: rest) a W := by
  have hrun := print_make_int (P := P) t e z bytes ht hinfo hz hb0 (n : Int) (by omega) (by simpa using hn) W
  have hl : madeCells #[z] n = (List.replicate n z).toArray := by
    apply Array.ext'
    apply List.ext_getElem
    · simp [madeCells]
    · intro i h1 h2
      simp [madeCells, Nat.mod_one]
  refine wpList_plain hgd fun K hK => ?_
  unfold Oper.wp
  simp only [execOp, ho, hx, hy, Sem.run_bind, hrun, Result.andThen_ok, Sem.run_pure, Int.toNat_natCast]
  rw [hl]
  exact hK _ _ (h _ _ ⟨H.out.alloc _ e⟩)
/-- copy(d, s): both rows of cells that are known. -/
theorem copy_box (pre post : List Res) (hgd : o.guard = none) (d s : Operand) (dT sT : TypeId) (ho : o.op = .call { callee := .builtin .copy, args := #[d, s], argTypes := #[dT, sT] }) (elem : TypeId) (hu : P.underlying dT = some (.slice elem)) (hsz : (P.info? elem).map (·.size) = some 1)
    (g off dLen dCap : Nat) (ad : Addr) (sLen sCap : Nat) (hd : a.eval d = .slice (some ⟨g, off, none⟩) dLen dCap) (hs : a.eval s = .slice (some ad) sLen sCap)
    (cur : List Value) (t : TypeId) (cs : List Value) (H : Aside0 (Sep b W (pre ++ box g cur t :: post))) (hn : cs.length = Nat.min sLen dLen)
    (hsrc : ∀ j v, cs[j]? = some v → W.cell? (ad.add j) = some v) (hfit : off + cs.length ≤ cur.length) (h1 : ∀ v ∈ cs, v.oneCell' = true)
    (h : ∀ W', Aside0 (Sep b W' (pre ++ box g (cur.take off ++ (cs ++ cur.drop (off + cs.length))) t :: post)) → wpList P ops Q rest (a.put o.dst (goInt cs.length)) W') : wpList P ops Q (o :: rest) a W :=
  wpList_copy_own hgd d s dT sT ho elem hu hsz g off dLen dCap ad sLen sCap hd hs cur.toArray t (H.out.all (box g cur t) (by simp)) cs hn hsrc (by simpa using hfit) h1 (h _ ⟨H.out.setRow _⟩)
/-- copy(d, text): the text fits. -/
theorem copy_text (pre post : List Res) (hgd : o.guard = none) (d s : Operand) (dT sT : TypeId) (ho : o.op = .call { callee := .builtin .copy, args := #[d, s], argTypes := #[dT, sT] }) (elem : TypeId) (hu : P.underlying dT = some (.slice elem)) (hsz : (P.info? elem).map (·.size) = some 1)
    (g off dLen dCap : Nat) (x : ByteArray) (hd : a.eval d = .slice (some ⟨g, off, none⟩) dLen dCap) (hs : a.eval s = .string x)
    (cur : List Value) (t : TypeId) (H : Aside0 (Sep b W (pre ++ box g cur t :: post))) (hle : x.size ≤ dLen) (hfit : off + x.size ≤ cur.length)
    (h : ∀ W', Aside0 (Sep b W' (pre ++ box g (cur.take off ++ (Lib.byteCells x.data.toList ++ cur.drop (off + x.size))) t :: post)) → wpList P ops Q rest (a.put o.dst (goInt x.size)) W') : wpList P ops Q (o :: rest) a W := by
  refine wpList_plain hgd fun K hK => ?_
  have hrun := Lib.run_copy_row_string (P := P) W dT sT o.type elem g off dLen dCap x cur.toArray t hu hsz (H.out.all (box g cur t) (by simp)) hle (by simpa using hfit)
  unfold Oper.wp
  simp [execOp, ho, resolve, invoke, builtin, hd, hs, hrun, Result.andThen]
  exact hK _ _ (h _ ⟨by have := H.out.setRow (cur.take off ++ (Lib.byteCells x.data.toList ++ cur.drop (off + x.size))); simpa using this⟩)
end
end Go.Proofs.YtanonhipicoigaaGreatDoor.Sp
namespace Go.Proofs.YtanonhipicoigaaGreatDoor.U
open Go.RowKit Go.Proofs.YtanonhipicoigaaGreatDoorW.PrintWords Go.Proofs.YtanonhipicoigaaGreatDoorW.PrintLast Go.Proofs.YtanonhipicoigaaGreatDoorW.PrintMore Go.Proofs.YtanonhipicoigaaGreatDoor.Sp
set_option linter.unusedVariables false
set_option linter.unusedSimpArgs false
/-! ### A number's bytes -/
def byteAt (n : Int) (i : Nat) : Int := n / 2 ^ (8 * i) % 256
def lowI (n : Int) (k : Nat) : List Int := (List.range k).map (byteAt n)
theorem lowI_succ (n : Int) (k : Nat) : lowI n (k + 1) = lowI n k ++ [byteAt n k] := by simp [lowI, List.range_succ]
set_option maxHeartbeats 1600000 in
theorem low_any (b0 w : World) (rs : List Res) (v : Value) (xs : List Int) (n : Int) (many : Nat) (hm : many ≤ 8) (hn : 0 ≤ n) (hn2 : n < 18446744073709551616) (hx : xs.length ≤ 1000000)
    (H : Aside0 (Sep b0 w (row (Kd.int .u8) 5 v xs :: rs))) :
    Calls Tryz.prog 121 #[v, .int .u64 n, .int .i64 (many : Int)] w fun e w' => ∃ A c, e = .returned (.slice A (xs ++ lowI n many).length c) ∧ Aside0 (Sep b0 w' (row (Kd.int .u8) 5 (.slice A (xs ++ lowI n many).length c) (xs ++ lowI n many) :: rs)) := by
  obtain ⟨A0, c0, rfl⟩ := Kd.R_slice (H.out.row_ mem0)
  go_enter Tryz.func121, Tryz.ntmps121
  go_wp2
  go_loopw [0, 9] (fun v0 v9 wr => ∃ (i : Nat) (A : Option Addr) (c : Nat) (ys : List Int), v0 = .slice A ys.length c ∧ v9 = .int .i64 (i : Int) ∧ i ≤ many ∧ ys.length ≤ 1000008 ∧ Aside0 (ys = xs ++ lowI n i) ∧ Aside0 (Sep b0 wr (row (Kd.int .u8) 5 (.slice A ys.length c) ys :: rs)))
    (fun _ v9 _ => many - (intOf v9).toNat)
  case atStart => exact ⟨0, A0, c0, xs, rfl, rfl, by omega, by omega, ⟨by simp [lowI]⟩, H⟩
  case round =>
    clear H
    obtain ⟨i, A, c, ys, rfl, rfl, hi, hy, HY, H⟩ := hrel
    by_cases hlt : i < many
    · have hy2 : ys.length < 1000008 := by rw [HY.out]; simp [lowI]; omega
      go_wp2_with (first
        | ((with_reducible refine gate_builtin (b := .append) (xs := #[.tmp 12, .tmp 18]) rfl ?_); at_builtin;
            refine app_row0 (Kd.int .u8) (flat_int _) rfl (.tmp 12) (.tmp 18) 147 5 (.int .u8 0) 1 rfl Tryz.underlying147 info5 rfl (by decide) (by omega) _ ys (n / 2 ^ (8 * i) % 256) [.int .u8 (n / 2 ^ (8 * i) % 256)] rfl rfl ?hp H ?hl ?_;
            (case hp => rfl); (case hl => omega);
            intro A1 c1 w1 H1; clear H; have H := H1; clear H1;
            simp only [Act.put, List.setIfInBounds_toArray, List.set_cons_zero, List.set_cons_succ])
        | fail)
      refine ⟨⟨i + 1, A1, c1, _, rfl, by congr 1, by omega, ?_, ⟨by rw [HY.out, lowI_succ, List.append_assoc]; rfl⟩, H⟩, by simp [intOf]; omega⟩
      rw [List.length_append, List.length_singleton]
      omega
    · obtain rfl : i = many := by omega
      go_wp2
      go_ret
      have e := HY.out
      subst e
      exact ⟨A, c, rfl, H⟩
end Go.Proofs.YtanonhipicoigaaGreatDoor.U
namespace Go.Proofs.YtanonhipicoigaaGreatDoor.U
open Go.RowKit Go.Proofs.YtanonhipicoigaaGreatDoorW.PrintWords Go.Proofs.YtanonhipicoigaaGreatDoorW.PrintLast Go.Proofs.YtanonhipicoigaaGreatDoorW.PrintMore Go.Proofs.YtanonhipicoigaaGreatDoor.Sp
set_option linter.unusedVariables false
set_option linter.unusedSimpArgs false
/-! ### A frame -/
def headI (seq : Int) (d : ByteArray) : List Int := lowI (d.size : Int) 4 ++ lowI seq 8
def sumI (seq : Int) (d : ByteArray) : Int := bits .xor .u32 IntKind.u32.max (crcF (crcF 4294967295 (strOfNums (headI seq d))) d)
theorem u64_small {n : Int} (h0 : 0 ≤ n) (h1 : n ≤ 4294967295) : IntKind.u64.wrap n = n := by
  simp [IntKind.wrap, IntKind.signed, IntKind.bits]
  omega
theorem row_cells {W : World} {k : IntKind} {A : Option Addr} {n : Nat} {xs : List Int} (h : (Kd.int k).C W A n xs) (hn : 0 < n) : ∃ ad, A = some ad ∧ ∀ j v, (nums k xs)[j]? = some v → W.cell? (ad.add j) = some v := by
  obtain ⟨ad, e, hc⟩ := h.2.2 hn
  refine ⟨ad, e, fun j v hv => ?_⟩
  simp only [nums, List.getElem?_map, Option.map_eq_some_iff] at hv
  obtain ⟨p, hp, rfl⟩ := hv
  obtain ⟨cs, _, hk, hcell⟩ := hc j p hp
  have hk' : cs = [.int k p] := hk
  subst hk'
  have := hcell 0 _ rfl
  simpa [Kd.int, Kd.scalar] using this
theorem bits_u32 (op : BinOp) (x y : Int) : 0 ≤ bits op .u32 x y ∧ bits op .u32 x y ≤ 4294967295 := by
  have h := wf_bits op .u32 x y
  simp only [Lit.wf, Bool.and_eq_true, decide_eq_true_eq] at h
  exact ⟨h.1, h.2⟩
def frameI (seq : Int) (d : ByteArray) : List Int := headI seq d ++ lowI (sumI seq d) 4 ++ bytesOf d
def frameF (seq : Int) (d : ByteArray) : ByteArray := strOfNums (frameI seq d)
theorem cells_bytes (d : ByteArray) : Lib.byteCells d.data.toList = nums .u8 (bytesOf d) := by simp [Lib.byteCells, nums, bytesOf]
set_option maxHeartbeats 1600000 in
set_option maxRecDepth 100000 in
theorem frame_any (seq : Int) (d : ByteArray) (w : World) (hd : d.size ≤ 65536) (h0 : 0 ≤ seq) (h1 : seq < 18446744073709551616) :
    Calls Tryz.prog 78 #[.int .u64 seq, .string d] w fun e w' => e = .returned (.string (frameF seq d)) ∧ Below w.heap.size w w' := by
  have H := Aside0.mk (Sep.push_nil (d := Kd.int .u8) (e := 5) (Sep.start w))
  have hsz : (d.size : Int) < 18446744073709551616 := by omega
  have hd2 : (0 : Int) ≤ (d.size : Int) := by omega
  go_enter Tryz.func78, Tryz.ntmps78
  go_wp2_with fail
  refine ((low_any w _ [] (.slice none 0 0) [] (d.size : Int) 4 (by omega) hd2 hsz (by simp) H).mono ?_)
  rintro e w1 ⟨A1, c1, rfl, H1⟩
  clear H
  rw [List.nil_append] at H1
  obtain ⟨l1, hl1⟩ : ∃ l1, l1 = lowI (d.size : Int) 4 := ⟨_, rfl⟩
  rw [← hl1] at H1 ⊢
  have HL1 := Aside0.mk hl1
  have hn1 : l1.length = 4 := by rw [hl1]; simp [lowI]
  have HN1 := Aside0.mk hn1
  clear hl1 hn1
  go_wp2_with fail
  refine ((low_any w _ [] _ l1 seq 8 (by omega) h0 h1 (by rw [HN1.out]; omega) H1).mono ?_)
  rintro e w2 ⟨A2, c2, rfl, H2⟩
  clear H1
  obtain ⟨l2, hl2⟩ : ∃ l2, l2 = l1 ++ lowI seq 8 := ⟨_, rfl⟩
  rw [← hl2] at H2 ⊢
  have HL2 := Aside0.mk hl2
  have HN2 := Aside0.mk (show l2.length = 12 by rw [hl2, List.length_append, HN1.out]; simp [lowI])
  clear hl2
  clear h1 hsz h0
  have hs2 := Kd.C_string (P := Tryz.prog) (src := 147) (dst := 9) (e := 5) (c := c2) Tryz.underlying147 Tryz.underlying5 Tryz.underlying9 (H2.out.reads mem0).2.2
  go_wp2_with fail
  clear hs2
  refine ((crc_any 4294967295 (strOfNums l2) _ (by rw [strOfNums_size, HN2.out]; omega)).mono ?_)
  rintro e w3 ⟨rfl, hb_⟩
  have H := Aside0.mk (H2.out.step hb_)
  clear H2 hb_
  go_wp2_with fail
  refine ((crc_any _ d _ (by omega)).mono ?_)
  rintro e w4 ⟨rfl, hb_⟩
  have n_ := Aside0.mk (H.out.step hb_)
  clear H hb_
  have H := n_
  clear n_
  obtain ⟨cc, hcc⟩ : ∃ cc, cc = crcF (crcF 4294967295 (strOfNums l2)) d := ⟨_, rfl⟩
  rw [← hcc]
  have HCC := Aside0.mk hcc
  clear hcc
  go_wp2_with (first
    | ((with_reducible refine gate_dst (N := 23) rfl ?_);
        refine make_box rfl rfl (.int .u8 0) 1 Tryz.underlying147 info5 rfl (by decide) (16 + d.size) ?hx ?hy (by omega) H ?_;
        (case hx => exact congrArg (Value.int .i64) (show (16 + (d.size : Int)) = ((16 + d.size : Nat) : Int) by omega));
        (case hy => exact congrArg (Value.int .i64) (show (16 + (d.size : Int)) = ((16 + d.size : Nat) : Int) by omega));
        intro g w5 H1; clear H; have H := H1; clear H1;
        simp only [Act.put, List.setIfInBounds_toArray, List.set_cons_zero, List.set_cons_succ])
    | fail)
  obtain ⟨sm, hsm⟩ : ∃ sm, sm = bits .xor .u32 IntKind.u32.max cc := ⟨_, rfl⟩
  have hs1 : 0 ≤ sm ∧ sm ≤ 4294967295 := by rw [hsm]; exact bits_u32 _ _ _
  obtain ⟨hs0, hs1⟩ := hs1
  rw [← hsm]
  have HSM := Aside0.mk hsm
  clear hsm
  rw [u64_small hs0 hs1]
  refine ((low_any w _ _ _ l2 sm 4 (by omega) hs0 (by omega) (by rw [HN2.out]; omega) ⟨Sep.front1 H.out⟩).mono ?_)
  rintro e w6 ⟨A3, c3, rfl, H3⟩
  clear H
  obtain ⟨l3, hl3⟩ : ∃ l3, l3 = l2 ++ lowI sm 4 := ⟨_, rfl⟩
  rw [← hl3] at H3 ⊢
  have HL3 := Aside0.mk hl3
  have hn3 : l3.length = 16 := by rw [hl3, List.length_append, HN2.out]; simp [lowI]
  clear hl3
  obtain ⟨ad, rfl, hsrc⟩ := row_cells (H3.out.reads mem0).2.2 (by omega)
  have HSRC := Aside0.mk hsrc
  have HN3 := Aside0.mk hn3
  clear hsrc hn3
  obtain ⟨l4, hl4⟩ : ∃ l4, l4 = l3 ++ List.replicate d.size (0 : Int) := ⟨_, rfl⟩
  have E1 : Aside0 (List.take 0 (List.replicate (16 + d.size) (Value.int .u8 0)) ++ (nums .u8 l3 ++ List.drop (0 + (nums .u8 l3).length) (List.replicate (16 + d.size) (Value.int .u8 0))) = nums .u8 l4) := ⟨by
    rw [hl4, nums_append, nums_length, HN3.out, List.take_zero, List.nil_append, List.drop_replicate]
    congr 1
    rw [show 16 + d.size - (0 + 16) = d.size by omega]
    simp [nums]⟩
  have E2 : Aside0 (l4.length = 16 + d.size) := ⟨by rw [hl4, List.length_append, HN3.out, List.length_replicate]⟩
  obtain ⟨l5, hl5⟩ : ∃ l5, l5 = l3 ++ bytesOf d := ⟨_, rfl⟩
  have E3 : Aside0 ((nums .u8 l4).take 16 ++ (Lib.byteCells d.data.toList ++ (nums .u8 l4).drop (16 + d.size)) = nums .u8 l5) := ⟨by
    rw [List.drop_of_length_le (by rw [nums_length, E2.out]; omega), List.append_nil, cells_bytes, hl5, nums_append, hl4, nums_append, List.take_append_of_le_length (by rw [nums_length, HN3.out]; omega), List.take_of_length_le (by rw [nums_length, HN3.out]; omega)]⟩
  have E4 : Aside0 (l5.length = 16 + d.size) := ⟨by rw [hl5, List.length_append, HN3.out, bytesOf_length]⟩
  have E5 : Aside0 (frameF seq d = strOfNums l5) := ⟨by
    rw [hl5, HL3.out, HL2.out, HL1.out, HSM.out, HCC.out, HL2.out, HL1.out]
    rfl⟩
  have hz : (Tryz.prog.info? 5).map (·.size) = some 1 := by kernel_rfl
  by_cases hde : d = ByteArray.empty
  · have h0 : d.size = 0 := by rw [hde]; rfl
    have hde2 : (d = ByteArray.empty) = True := eq_true hde
    have hce := fun dd dl dc w => Lib.run_copy_empty_string (P := Tryz.prog) w 147 9 3 5 dd dl dc d Tryz.underlying147 (by kernel_rfl) h0
    have E6 : Aside0 (l4 = l5) := ⟨by rw [hl4, hl5, h0]; simp [show bytesOf d = [] by rw [hde]; rfl]⟩
    clear hl4 hl5
    have HDE := Aside0.mk hde
    have H0 := Aside0.mk h0
    clear hde h0
    go_wp2_with (first
      | ((with_reducible refine gate_builtin (b := .copy) (xs := #[.tmp 24, .tmp 28]) rfl ?_);
          refine copy_box [row (Kd.int .u8) 5 (.slice (some ad) l3.length c3) l3] [] rfl (.tmp 24) (.tmp 28) 147 147 rfl 5 Tryz.underlying147 hz g 0 (16 + d.size) (16 + d.size) ad l3.length c3 rfl rfl _ 5 (nums .u8 l3) H3 ?hn HSRC.out ?hfit ?h1 ?_;
          (case hn => rw [nums_length, HN3.out]; simp only [Nat.min_def]; split <;> omega);
          (case hfit => rw [nums_length, HN3.out, List.length_replicate]; omega);
          (case h1 => intro v hv; simp only [nums, List.mem_map] at hv; obtain ⟨q, _, rfl⟩ := hv; rfl);
          intro w7 H4; rw [E1.out] at H4;
          have H5 : Aside0 (Sep w w7 [row (Kd.int .u8) 5 (.slice (some ad) l3.length c3) l3, box g (nums .u8 l4) 5]) := H4; clear H4;
          have H7 : Aside0 (Sep w w7 [row (Kd.int .u8) 5 (.slice (some ad) l3.length c3) l3, box g (nums .u8 l5) 5]) := (by rw [← E6.out]; exact H5); clear H5;
          have C7 := box_C (H7.out.box_ mem1) (by rw [E4.out]; omega); rw [E4.out] at C7;
          have hs7 := Kd.C_string (P := Tryz.prog) (src := 147) (dst := 9) (e := 5) (c := 16 + d.size) Tryz.underlying147 Tryz.underlying5 Tryz.underlying9 C7;
          simp only [Act.put, List.setIfInBounds_toArray, List.set_cons_zero, List.set_cons_succ])
      | fail)
    go_ret
    exact ⟨by rw [E5.out]; rfl, H7.out.below⟩
  · clear hl4 hl5
    go_wp2_with (first
      | ((with_reducible refine gate_builtin (b := .copy) (xs := #[.tmp 24, .tmp 28]) rfl ?_);
          refine copy_box [row (Kd.int .u8) 5 (.slice (some ad) l3.length c3) l3] [] rfl (.tmp 24) (.tmp 28) 147 147 rfl 5 Tryz.underlying147 hz g 0 (16 + d.size) (16 + d.size) ad l3.length c3 rfl rfl _ 5 (nums .u8 l3) H3 ?hn HSRC.out ?hfit ?h1 ?_;
          (case hn => rw [nums_length, HN3.out]; simp only [Nat.min_def]; split <;> omega);
          (case hfit => rw [nums_length, HN3.out, List.length_replicate]; omega);
          (case h1 => intro v hv; simp only [nums, List.mem_map] at hv; obtain ⟨q, _, rfl⟩ := hv; rfl);
          intro w7 H4; rw [E1.out] at H4;
          have H5 : Aside0 (Sep w w7 [row (Kd.int .u8) 5 (.slice (some ad) l3.length c3) l3, box g (nums .u8 l4) 5]) := H4; clear H4;
          simp only [Act.put, List.setIfInBounds_toArray, List.set_cons_zero, List.set_cons_succ])
      | ((with_reducible refine gate_builtin (b := .copy) (xs := #[.tmp 31, .tmp 32]) rfl ?_);
          refine copy_text [row (Kd.int .u8) 5 (.slice (some ad) l3.length c3) l3] [] rfl (.tmp 31) (.tmp 32) 147 9 rfl 5 Tryz.underlying147 hz g 16 _ _ d rfl rfl (nums .u8 l4) 5 H5 ?hle ?hfit ?_;
          (case hle => omega);
          (case hfit => rw [nums_length, E2.out]; omega);
          intro w8 H6; rw [E3.out] at H6;
          have H7 : Aside0 (Sep w w8 [row (Kd.int .u8) 5 (.slice (some ad) l3.length c3) l3, box g (nums .u8 l5) 5]) := H6; clear H6;
          have C7 := box_C (H7.out.box_ mem1) (by rw [E4.out]; omega); rw [E4.out] at C7;
          have hs7 := Kd.C_string (P := Tryz.prog) (src := 147) (dst := 9) (e := 5) (c := 16 + d.size) Tryz.underlying147 Tryz.underlying5 Tryz.underlying9 C7;
          simp only [Act.put, List.setIfInBounds_toArray, List.set_cons_zero, List.set_cons_succ])
      | fail)
    go_ret
    exact ⟨by rw [E5.out]; rfl, H7.out.below⟩
end Go.Proofs.YtanonhipicoigaaGreatDoor.U
namespace Go.Proofs.YtanonhipicoigaaGreatDoor.U
open Go.RowKit Go.Proofs.YtanonhipicoigaaGreatDoorW.PrintWords Go.Proofs.YtanonhipicoigaaGreatDoorW.PrintLast Go.Proofs.YtanonhipicoigaaGreatDoorW.PrintMore
set_option linter.unusedVariables false
set_option linter.unusedSimpArgs false
/-- How two texts stand to each other, by bytes. -/
def cmpS (x y : ByteArray) : Int := if Op.bytesLess x.toList y.toList = true then -1 else if x.toList = y.toList then 0 else 1
theorem compare_any (x y : ByteArray) (w : World) :
    Calls Tryz.prog 158 #[.string x, .string y] w fun e w' => e = .returned (.int .i64 (cmpS x y)) ∧ w = w' := by
  by_cases h1 : Op.bytesLess x.toList y.toList = true
  · go_enter Tryz.func158, Tryz.ntmps158
    go_wp2
    go_ret
    exact ⟨by simp [cmpS, h1], rfl⟩
  · have h1' : Op.bytesLess x.toList y.toList = false := by simpa using h1
    by_cases h2 : x.toList = y.toList
    · have h3 : (!x.toList == y.toList) = false := by simp [h2]
      have e : cmpS x y = 0 := by unfold cmpS; rw [if_neg h1, if_pos h2]
      rw [e]
      clear h1 h2 e
      go_enter Tryz.func158, Tryz.ntmps158
      go_wp2
      go_ret
      exact ⟨rfl, rfl⟩
    · have h3 : (!x.toList == y.toList) = true := by simp [h2]
      have e : cmpS x y = 1 := by simp [cmpS, h1', h2]
      rw [e]
      clear h1 h2 e
      go_enter Tryz.func158, Tryz.ntmps158
      go_wp2
      go_ret
      exact ⟨rfl, rfl⟩
/-- What disk.place hands to the search. -/
theorem place1_any (x : S67) (y : ByteArray) (w : World) :
    Calls Tryz.prog 157 #[.agg #[.string x.f0, .string x.f1, .int .i64 x.f2], .string y] w fun e w' => e = .returned (.int .i64 (cmpS x.f0 y)) ∧ Below w.heap.size w w' := by
  go_enter Tryz.func157, Tryz.ntmps157
  go_wp2_with (go_at_call 158; refine (compare_any _ _ _).mono ?_; rintro e w' ⟨rfl, rfl⟩)
  go_ret
  exact ⟨rfl, (Below.refl _ _).alloc (Nat.le_refl _) _⟩
/-- Where a text stands, or would stand, among rising ones: as Go's search goes. -/
def bsGo (l : List S67) (s : ByteArray) : Nat → Nat → Nat → Nat
  | 0, i, _ => i
  | f + 1, i, j => if i < j then (if cmpS (rd_T67 l (((i + j) / 2 : Nat) : Int)).f0 s < 0 then bsGo l s f ((i + j) / 2 + 1) j else bsGo l s f i ((i + j) / 2)) else i
theorem bsGo_le (l : List S67) (s : ByteArray) : ∀ (f i j : Nat), i ≤ j → i ≤ bsGo l s f i j ∧ bsGo l s f i j ≤ j
  | 0, i, j, h => ⟨Nat.le_refl _, h⟩
  | f + 1, i, j, h => by
    unfold bsGo
    split
    · split
      · have := bsGo_le l s f ((i + j) / 2 + 1) j (by omega); omega
      · have := bsGo_le l s f i ((i + j) / 2) (by omega); omega
    · omega
def bsOf (l : List S67) (s : ByteArray) : Nat := bsGo l s l.length 0 l.length
def isAt (l : List S67) (s : ByteArray) (i : Nat) : Bool := decide (i < l.length) && (cmpS (rd_T67 l (i : Int)).f0 s == 0)
theorem cmpS_range (x y : ByteArray) : -1 ≤ cmpS x y ∧ cmpS x y ≤ 1 := by
  unfold cmpS
  split
  · omega
  · split <;> omega
set_option maxHeartbeats 1600000 in
set_option maxRecDepth 100000 in
theorem search_any (A : Option Addr) (c : Nat) (l : List S67) (s : ByteArray) (w : World) (hr : Kd.C k67 w A l.length l) (hn : l.length ≤ 64) :
    Calls Tryz.prog 156 #[.slice A l.length c, .string s, .func (.func 157) #[] #[]] w fun e w' => e = .returned (.tuple #[.int .i64 (bsOf l s), .bool (isAt l s (bsOf l s))]) ∧ Below w.heap.size w w' := by
  have HR := Aside0.mk hr
  clear hr
  go_enter Tryz.func156, Tryz.ntmps156
  go_wp2
  go_loopw [9, 10] (fun vi vj wr => ∃ i j f : Nat, vi = .int .i64 i ∧ vj = .int .i64 j ∧ i ≤ j ∧ j ≤ l.length ∧ j ≤ i + f ∧ Aside0 (bsGo l s f i j = bsOf l s) ∧ Aside0 (Below w.heap.size w wr))
    (fun vi vj _ => (intOf vj).toNat - (intOf vi).toNat)
  case atStart => exact ⟨0, l.length, l.length, rfl, rfl, by omega, by omega, by omega, ⟨rfl⟩, ⟨Below.refl _ _⟩⟩
  case round =>
    obtain ⟨i, j, f, rfl, rfl, hij, hjn, hjf, HG, HB⟩ := hrel
    by_cases hlt : i < j
    · have hr1 := Kd.C_below HR.out HB.out
      obtain ⟨ad, rfl, hc0, hc1, hc2⟩ := at_T67 hr1 (((i + j) / 2 : Nat) : Int) (by omega) (by omega)
      clear hr1
      simp only [Int.toNat_natCast] at hc0 hc1 hc2
      have hrg := cmpS_range (rd_T67 l (((i + j) / 2 : Nat) : Int)).f0 s
      obtain ⟨x, hx⟩ : ∃ x, x = rd_T67 l (((i + j) / 2 : Nat) : Int) := ⟨_, rfl⟩
      rw [← hx] at hc0 hc1 hc2 hrg
      have HX := Aside0.mk hx
      clear hx
      by_cases hcm : cmpS x.f0 s < 0
      · go_wp2_with (go_at_call 157; refine (place1_any x s _).mono ?_; rintro e w' ⟨rfl, hb⟩)
        refine ⟨⟨(i + j) / 2 + 1, j, f - 1, by congr 1, rfl, by omega, hjn, by omega, ⟨?_⟩, ⟨below_step HB.out hb⟩⟩, by simp [intOf]; omega⟩
        have h := HG.out
        obtain ⟨f, rfl⟩ : ∃ f', f = f' + 1 := ⟨f - 1, by omega⟩
        rw [← h, bsGo, if_pos hlt, if_pos (by rw [← HX.out]; exact hcm)]
        rfl
      · have hcm2 : decide (cmpS x.f0 s < 0) = false := by simpa using hcm
        go_wp2_with (go_at_call 157; refine (place1_any x s _).mono ?_; rintro e w' ⟨rfl, hb⟩)
        refine ⟨⟨i, (i + j) / 2, f - 1, rfl, by congr 1, by omega, by omega, by omega, ⟨?_⟩, ⟨below_step HB.out hb⟩⟩, by simp [intOf]; omega⟩
        have h := HG.out
        obtain ⟨f, rfl⟩ : ∃ f', f = f' + 1 := ⟨f - 1, by omega⟩
        rw [← h, bsGo, if_pos hlt, if_neg (by rw [← HX.out]; omega)]
        rfl
    · have hij2 : i = j := by omega
      subst hij2
      have HI : Aside0 (i = bsOf l s) := by
        have h := HG.out
        refine ⟨?_⟩
        rw [← h]
        cases f <;> simp [bsGo]
      by_cases hin : i < l.length
      · have hr1 := Kd.C_below HR.out HB.out
        obtain ⟨ad, rfl, hc0, hc1, hc2⟩ := at_T67 hr1 (i : Int) (by omega) (by omega)
        clear hr1
        simp only [Int.toNat_natCast] at hc0 hc1 hc2
        obtain ⟨x, hx⟩ : ∃ x, x = rd_T67 l (i : Int) := ⟨_, rfl⟩
        rw [← hx] at hc0 hc1 hc2
        have HX := Aside0.mk hx
        clear hx
        go_wp2_with (go_at_call 157; refine (place1_any x s _).mono ?_; rintro e w' ⟨rfl, hb⟩)
        go_ret2
        refine ⟨?_, below_step HB.out hb⟩
        rw [← HI.out]
        have e1 : isAt l s i = (cmpS x.f0 s == 0) := by unfold isAt; rw [← HX.out]; simp [hin]
        rw [e1]
        rfl
      · have e1 : isAt l s i = false := by unfold isAt; simp [hin]
        go_wp2
        go_ret2
        refine ⟨?_, HB.out⟩
        rw [← HI.out, e1]
        rfl
/-- The place of a name among files. -/
def disk_place.f (l0_0 : List (S67)) (a0_1 : Bool) (a0_2 : Int) (a0_3 : Int) (a1 : ByteArray) : Option (Int × Bool) := if l0_0.length ≤ 64 then some ((bsOf l0_0 a1 : Int), isAt l0_0 a1 (bsOf l0_0 a1)) else none
theorem disk_place.calls (A0_0 : Option Addr) (c0_0 : Nat) (l0_0 : List (S67)) (a0_1 : Bool) (a0_2 : Int) (a0_3 : Int) (a1 : ByteArray) (r1 : Int) (r2 : Bool) (w : World) (hr0_0 : Kd.C k67 w A0_0 l0_0.length l0_0) (hc0_0 : l0_0.length ≤ c0_0) (h : disk_place.f l0_0 a0_1 a0_2 a0_3 a1 = some (r1, r2)) :
    Calls Tryz.prog 114 #[.agg #[.slice A0_0 l0_0.length c0_0, .bool a0_1, .int .i64 a0_2, .int .i64 a0_3], .string a1] w fun e w' => e = .returned (.tuple #[.int .i64 r1, .bool r2]) ∧ Below w.heap.size w w' := by
  unfold disk_place.f at h
  split at h
  case isFalse => cases h
  rename_i hn
  simp only [Option.some.injEq, Prod.mk.injEq] at h
  obtain ⟨rfl, rfl⟩ := h
  have HR := Aside0.mk hr0_0
  clear hr0_0
  go_enter Tryz.func114, Tryz.ntmps114
  go_wp2_with (go_at_call 156; (with_reducible refine (search_any A0_0 c0_0 l0_0 a1 _ (Kd.C_below HR.out ((Below.refl _ _).alloc (Nat.le_refl _) _)) hn).mono ?_); rintro e w' ⟨rfl, hb⟩)
  go_ret2
  exact ⟨rfl, below_step ((Below.refl _ _).alloc (Nat.le_refl _) _) hb⟩
end Go.Proofs.YtanonhipicoigaaGreatDoor.U
namespace Go.Proofs.YtanonhipicoigaaGreatDoor.U
open Go.RowKit Go.Proofs.YtanonhipicoigaaGreatDoorW.PrintWords Go.Proofs.YtanonhipicoigaaGreatDoorW.PrintLast Go.Proofs.YtanonhipicoigaaGreatDoorW.PrintMore
set_option linter.unusedVariables false
set_option linter.unusedSimpArgs false
theorem bl_irrefl : ∀ a : List UInt8, Op.bytesLess a a = false
  | [] => rfl
  | x :: r => by
    simp only [Op.bytesLess, Bool.or_eq_false_iff, Bool.and_eq_false_iff]
    exact ⟨by simp, .inr (bl_irrefl r)⟩
theorem bl_asymm : ∀ a b : List UInt8, Op.bytesLess a b = true → Op.bytesLess b a = false
  | a, [], h => by cases a <;> simp [Op.bytesLess] at h
  | [], y :: s, h => rfl
  | x :: r, y :: s, h => by
    simp only [Op.bytesLess, Bool.or_eq_true, Bool.and_eq_true, decide_eq_true_eq, beq_iff_eq] at h
    simp only [Op.bytesLess, Bool.or_eq_false_iff, Bool.and_eq_false_iff, decide_eq_false_iff_not]
    rcases h with h | ⟨rfl, h⟩
    · have hn : x.toNat < y.toNat := h
      refine ⟨fun hh => ?_, .inl ?_⟩
      · have : y.toNat < x.toNat := hh
        omega
      · simp only [beq_eq_false_iff_ne, ne_eq]
        rintro rfl
        omega
    · exact ⟨fun hh => by have : x.toNat < x.toNat := hh; omega, .inr (bl_asymm r s h)⟩
theorem bl_total : ∀ a b : List UInt8, Op.bytesLess a b = true ∨ a = b ∨ Op.bytesLess b a = true
  | [], [] => .inr (.inl rfl)
  | [], y :: s => .inl rfl
  | x :: r, [] => .inr (.inr rfl)
  | x :: r, y :: s => by
    simp only [Op.bytesLess, Bool.or_eq_true, Bool.and_eq_true, decide_eq_true_eq, beq_iff_eq, List.cons.injEq]
    rcases Nat.lt_trichotomy x.toNat y.toNat with h | h | h
    · exact .inl (.inl h)
    · have e : x = y := UInt8.toNat_inj.mp h
      subst e
      rcases bl_total r s with g | g | g
      · exact .inl (.inr ⟨rfl, g⟩)
      · exact .inr (.inl ⟨rfl, g⟩)
      · exact .inr (.inr (.inr ⟨rfl, g⟩))
    · exact .inr (.inr (.inl h))
theorem bl_trans : ∀ a b c : List UInt8, Op.bytesLess a b = true → Op.bytesLess b c = true → Op.bytesLess a c = true
  | a, b, [], h, k => by cases b <;> simp [Op.bytesLess] at k
  | [], b, z :: t, h, k => rfl
  | x :: r, [], z :: t, h, k => by simp [Op.bytesLess] at h
  | x :: r, y :: s, z :: t, h, k => by
    simp only [Op.bytesLess, Bool.or_eq_true, Bool.and_eq_true, decide_eq_true_eq, beq_iff_eq] at h k ⊢
    rcases h with h | ⟨rfl, h⟩
    · rcases k with k | ⟨rfl, k⟩
      · left
        have h' : x.toNat < y.toNat := h
        have k' : y.toNat < z.toNat := k
        show x.toNat < z.toNat
        omega
      · exact .inl h
    · rcases k with k | ⟨rfl, k⟩
      · exact .inl k
      · exact .inr ⟨rfl, bl_trans r s t h k⟩
theorem empty_list : (⟨#[]⟩ : ByteArray).toList = [] := by
  unfold ByteArray.toList
  rw [ByteArray.toList.loop]
  rfl
/-- A file that may stand behind a name. -/
def okFile (last : List UInt8) (f : S67) : Bool := Op.bytesLess last f.f0.toList && decide (f.f0.size ≤ 4096) && decide (f.f1.size ≤ 262144) && decide (0 ≤ f.f2) && decide (f.f2 ≤ (f.f1.size : Int))
def okFiles : List UInt8 → List S67 → Bool
  | _, [] => true
  | last, f :: r => okFile last f && okFiles f.f0.toList r
/-- The files of a disk that is right. -/
def rightF (l : List S67) : Bool := okFiles [] l && decide (l.length ≤ 64)
theorem drop_rd (l : List S67) (i : Nat) (h : i < l.length) : l.drop i = rd_T67 l (i : Int) :: l.drop (i + 1) := by
  rw [List.drop_eq_getElem_cons h]
  congr 1
  simp [rd_T67, List.getD, h]
def disk_Check.f (l0_0 : List (S67)) (a0_1 : Bool) (a0_2 : Int) (a0_3 : Int) : Option (Int) := some (if rightF l0_0 = true then 0 else 6)
set_option maxHeartbeats 1600000 in
set_option maxRecDepth 100000 in
theorem disk_Check.calls (A0_0 : Option Addr) (c0_0 : Nat) (l0_0 : List (S67)) (a0_1 : Bool) (a0_2 : Int) (a0_3 : Int) (r : Int) (w : World) (hr0_0 : Kd.C k67 w A0_0 l0_0.length l0_0) (hc0_0 : l0_0.length ≤ c0_0) (h : disk_Check.f l0_0 a0_1 a0_2 a0_3 = some r) :
    Calls Tryz.prog 50 #[.agg #[.slice A0_0 l0_0.length c0_0, .bool a0_1, .int .i64 a0_2, .int .i64 a0_3]] w fun e w' => e = .returned (.int .i64 r) ∧ Below w.heap.size w w' := by
  unfold disk_Check.f at h
  have HRR := Aside0.mk (Option.some.inj h).symm
  clear h
  have hlen : l0_0.length ≤ 9223372036854775807 := hr0_0.2.1
  have HR := Aside0.mk hr0_0
  clear hr0_0
  go_enter Tryz.func50, Tryz.ntmps50
  go_wp2
  go_loopw [3, 9] (fun vl vi wr => ∃ (i : Nat) (last : ByteArray), vl = .string last ∧ vi = .int .i64 i ∧ i ≤ l0_0.length ∧ Aside0 (okFiles last.toList (l0_0.drop i) = okFiles [] l0_0) ∧ Aside0 (wr.heap[w.heap.size]? = some (.cells #[.slice A0_0 l0_0.length c0_0, .bool a0_1, .int .i64 a0_2, .int .i64 a0_3] 27 (0, 0))) ∧ Aside0 (Below w.heap.size w wr))
    (fun vl vi _ => l0_0.length - (intOf vi).toNat)
  case atStart => exact ⟨0, _, rfl, rfl, Nat.zero_le _, ⟨by rw [List.drop_zero, empty_list]⟩, ⟨blk_new _ _⟩, ⟨(Below.refl _ _).alloc (Nat.le_refl _) _⟩⟩
  case round =>
    obtain ⟨i, last, rfl, rfl, hin, HG, HK, HB⟩ := hrel
    by_cases hlt : i < l0_0.length
    · have hr1 := Kd.C_below HR.out HB.out
      obtain ⟨ad, rfl, hc0, hc1, hc2⟩ := at_T67 hr1 (i : Int) (by omega) (by omega)
      clear hr1
      have HD := Aside0.mk (drop_rd l0_0 i hlt)
      simp only [Int.toNat_natCast] at hc0 hc1 hc2
      obtain ⟨x, hx⟩ : ∃ x, x = rd_T67 l0_0 (i : Int) := ⟨_, rfl⟩
      rw [← hx] at hc0 hc1 hc2 HD
      clear hx
      by_cases hok : okFile last.toList x = true
      · have hok2 := hok
        simp only [okFile, Bool.and_eq_true, decide_eq_true_eq] at hok2
        obtain ⟨⟨⟨⟨c1, c2⟩, c3⟩, c4⟩, c5⟩ := hok2
        have g1 : Op.bytesLess x.f0.toList last.toList = false := bl_asymm _ _ c1
        have g2 : (x.f0.toList == last.toList) = false := by
          simp only [beq_eq_false_iff_ne, ne_eq]
          intro e
          rw [e, bl_irrefl] at c1
          cases c1
        have c2' : (x.f0.size : Int) ≤ 4096 := by omega
        have c3' : (x.f1.size : Int) ≤ 262144 := by omega
        have HOK := Aside0.mk hok
        clear c1 hok c2 c3
        go_wp2
        refine ⟨⟨i + 1, x.f0, by simp, by congr 1, by omega, ⟨?_⟩, ⟨blk_alloc HK.out _⟩, ⟨below_alloc HB.out _⟩⟩, by simp [intOf]; omega⟩
        have h := HG.out
        rw [HD.out] at h
        simp only [okFiles, HOK.out, Bool.true_and] at h
        exact h
      · have HR6 : Aside0 (r = 6) := by
          refine ⟨?_⟩
          have h := HG.out
          rw [HD.out] at h
          have e : okFile last.toList x = false := by simpa using hok
          simp only [okFiles, e, Bool.false_and] at h
          rw [HRR.out, rightF, ← h]
          rfl
        by_cases c1 : Op.bytesLess last.toList x.f0.toList = true
        · have g1 : Op.bytesLess x.f0.toList last.toList = false := bl_asymm _ _ c1
          have g2 : (x.f0.toList == last.toList) = false := by
            simp only [beq_eq_false_iff_ne, ne_eq]
            intro e
            rw [e, bl_irrefl] at c1
            cases c1
          have hbad : Aside0 (¬ ((x.f0.size : Int) ≤ 4096 ∧ (x.f1.size : Int) ≤ 262144 ∧ 0 ≤ x.f2 ∧ x.f2 ≤ (x.f1.size : Int))) := by
            refine ⟨fun hh => hok ?_⟩
            simp only [okFile, Bool.and_eq_true, decide_eq_true_eq]
            exact ⟨⟨⟨⟨c1, by omega⟩, by omega⟩, hh.2.2.1⟩, hh.2.2.2⟩
          clear c1 hok
          go_wp2
          all_goals first
            | (go_ret; exact ⟨by rw [HR6.out]; rfl, below_alloc HB.out _⟩)
            | (have := hbad.out; exfalso; omega)
        · have g0 : (Op.bytesLess x.f0.toList last.toList || x.f0.toList == last.toList) = true := by
            rcases bl_total last.toList x.f0.toList with g | g | g
            · exact absurd g c1
            · simp [g]
            · simp [g]
          clear c1 hok
          go_wp2
          all_goals first
            | (go_ret; exact ⟨by rw [HR6.out]; rfl, below_alloc HB.out _⟩)
    · have hcz0 : wr.cell? ⟨w.heap.size, 0, none⟩ = some (.slice A0_0 l0_0.length c0_0) := (blk_cell HK.out 0).trans rfl
      have hi : i = l0_0.length := by omega
      subst hi
      have HOK : Aside0 (okFiles [] l0_0 = true) := ⟨by have h := HG.out; rw [List.drop_length] at h; exact h.symm⟩
      by_cases hn : l0_0.length ≤ 64
      · have HR0 : Aside0 (r = 0) := ⟨by rw [HRR.out, rightF, HOK.out]; simp [hn]⟩
        go_wp2
        go_ret
        exact ⟨by rw [HR0.out]; rfl, HB.out⟩
      · have HR0 : Aside0 (r = 6) := ⟨by rw [HRR.out, rightF, HOK.out]; simp [hn]⟩
        go_wp2
        go_ret
        exact ⟨by rw [HR0.out]; rfl, HB.out⟩
end Go.Proofs.YtanonhipicoigaaGreatDoor.U
namespace Go.Proofs.YtanonhipicoigaaGreatDoor.U
open Go.RowKit Go.Proofs.YtanonhipicoigaaGreatDoorW.PrintWords Go.Proofs.YtanonhipicoigaaGreatDoorW.PrintLast Go.Proofs.YtanonhipicoigaaGreatDoorW.PrintMore
set_option linter.unusedVariables false
set_option linter.unusedSimpArgs false
/-- A list of files in new memory. -/
def api_File.f (l0 : List (S67)) : Option (List (S67)) := if l0.length < 3518437208883 then some l0 else none
set_option maxHeartbeats 1600000 in
set_option maxRecDepth 100000 in
theorem api_File.calls (A0 : Option Addr) (c0 : Nat) (l0 : List (S67)) (r : List (S67)) (w : World) (hr0 : Kd.C k67 w A0 l0.length l0) (hc0 : l0.length ≤ c0) (h : api_File.f l0 = some r) :
    Calls Tryz.prog 63 #[.slice A0 l0.length c0] w fun e w' => ∃ v0_ : Value, e = .returned v0_ ∧ Kd.R k67 67 w' w.heap.size (fun _ => True) v0_ r ∧ Below w.heap.size w w' := by
  unfold api_File.f at h
  split at h
  case isFalse => cases h
  rename_i hn
  have HE := Aside0.mk (Option.some.inj h)
  clear h
  have HR := Aside0.mk hr0
  clear hr0
  have hnil : ∀ (a : Option Addr) (n c : Nat) (w : World), (binOp .eql 25 (.slice a n c) (.slice none 0 0)).run Tryz.prog w = .ok (.bool a.isNone) w := fun a n c w => by
    simp only [binOp]
    simp [Op.equal, Op.maxDepth, Lib.run_equalIn_slice_nil w 9999 25 67 a n c 0 0 Tryz.underlying25]
  cases A0 with
  | none =>
    have hl : l0 = [] := by
      cases l0 with
      | nil => rfl
      | cons x s => obtain ⟨ad, h, _⟩ := HR.out.2.2 (by simp); cases h
    go_enter Tryz.func63, Tryz.ntmps63
    go_wp2
    go_ret
    exact ⟨_, rfl, by rw [← HE.out, hl]; exact Kd.R_nil _ _ _ _ _, Below.refl _ _⟩
  | some ad =>
    go_enter Tryz.func63, Tryz.ntmps63
    go_wp2_with (first
      | ((with_reducible refine gate_dst (N := 5) rfl ?_);
          refine Kd.R_lit k67 _ 67 ?hg (N := 5) ?hd (xs := ([] : List (S67))) (inner := []) (ok := fun _ => True) (okp := fun _ => True) ?hr ?hp (fun _ hk => hk) trivial (Below.refl _ _) (Nat.le_refl _) (by simp) ?_;
          (case hd => rfl); (case hg => rfl); (case hr => first | (go_simp; done) | (go_simp; rfl)); (case hp => exact (Reps.none _ _));
          intro v5 w5 ho hb hg_ hnew_; clear hg_ hnew_; have HO := Aside0.mk ho; have HB := Aside0.mk hb; clear ho hb)
      | ((with_reducible refine gate_builtin (b := .append) (xs := #[.tmp 5, .tmp 6]) rfl ?_); at_builtin;
          refine Kd.R_append_rows k67 (w0 := w) w.heap.size rfl (.tmp 5) (.tmp 6) 25 67 (.agg #[(.string ⟨#[]⟩), (.string ⟨#[]⟩), (.int .i64 0)]) 40 rfl Tryz.underlying25 info67 rfl (by decide) (by omega) v5 [] l0 _ _ _ (fun _ => True) (fun _ => False) rfl rfl ?aO ?aR (fun _ _ h => h) (fun _ h => h.elim) ?aF ?aB ?aS ?aL ?_;
          (case aR => exact Kd.C_below HR.out HB.out); (case aB => exact HB.out); (case aF => exact fun _ _ => trivial); (case aO => exact HO.out); (case aS => exact HB.out.size); (case aL => simp only [List.length_nil]; omega);
          intro v7 w9 ho hb hg hat; clear hg hat; have HO2 := Aside0.mk ho; have HB2 := Aside0.mk hb; clear ho hb))
    go_ret
    exact ⟨_, rfl, by rw [← HE.out]; exact HO2.out, HB2.out⟩
end Go.Proofs.YtanonhipicoigaaGreatDoor.U
namespace Go.Proofs.YtanonhipicoigaaGreatDoor.U
open Go.RowKit Go.Proofs.YtanonhipicoigaaGreatDoorW.PrintWords Go.Proofs.YtanonhipicoigaaGreatDoorW.PrintLast Go.Proofs.YtanonhipicoigaaGreatDoorW.PrintMore
set_option linter.unusedVariables false
set_option linter.unusedSimpArgs false
/-- A function's number that may be called. -/
def Enters (K : Nat) : Prop := ∀ (args : Array Value) (w : World), (callFunc K args).run Tryz.prog w = .ok (.enter K args) w
/-- What closures lead to stays: all blocks but those of changes (63), of disks (24), and p. -/
def KeepT (w2 w3 : World) (p : Option Nat) : Prop := ∀ (k : Nat) (cs : Array Value) (t : Nat), t ≠ 179 → t ≠ 27 → some k ≠ p → w2.heap[k]? = some (.cells cs t (0, 0)) → w3.heap[k]? = some (.cells cs t (0, 0))
theorem KeepT.of_below {w2 w3 : World} (h : Below w2.heap.size w2 w3) : KeepT w2 w3 none := fun _ _ _ _ _ _ hk => blk_below hk h
theorem KeepT.of_keep {w2 w3 : World} {g : Nat} (h : KeepBut w2 w3 g none) : KeepT w2 w3 (some g) := fun k _ _ _ _ hg hk => h.blk hk (fun e => hg (by rw [e])) (by simp)
/-- What a change refuses, as a function value. -/
def RefV (w2 : World) (rv : Value) (n : Nat) (rf : Int → Bool → Int) : Prop :=
  ∃ (K : Nat) (caps : Array Value), rv = .func (.func K) #[] caps ∧ Enters K ∧
    ∀ (w3 : World) (i : Nat) (b : Bool), KeepT w2 w3 none → i ≤ n → (b = true → i < n) →
      Calls Tryz.prog K (#[.int .i64 (i : Int), .bool b] ++ caps) w3 fun e w4 => e = .returned (.int .i64 (rf i b)) ∧ Below w3.heap.size w3 w4
/-- What a change does, as a function value. -/
def DoV (base gp : Nat) (w2 : World) (dv v : Value) (l : List S67) (rf : Int → Bool → Int) (df : Int → List S67) : Prop :=
  ∃ (K : Nat) (caps : Array Value), dv = .func (.func K) #[] caps ∧ Enters K ∧
    ∀ (w3 : World) (i : Nat) (b : Bool) (dn : Bool) (fu fa : Int), KeepT w2 w3 (some gp) → i ≤ l.length → (b = true → i < l.length) → rf i b = 0 →
      w3.heap[gp]? = some (.cells #[v, .bool dn, .int .i64 fu, .int .i64 fa] 211 (0, 0)) → Kd.R k67 67 w3 base (fun _ => True) v l →
      Calls Tryz.prog K (#[.int .i64 (i : Int)] ++ caps) w3 fun e w4 => e = .returned (.tuple #[]) ∧ ∃ v' : Value,
        w4.heap[gp]? = some (.cells #[v', .bool dn, .int .i64 fu, .int .i64 fa] 211 (0, 0)) ∧ Kd.R k67 67 w4 base (fun _ => True) v' (df i) ∧ Below base w3 w4 ∧
        ∀ (k : Nat) (cs : Array Value), w3.heap[k]? = some (.cells cs 27 (0, 0)) → w4.heap[k]? = some (.cells cs 27 (0, 0))
/-- What a change comes to. -/
def changedF (l : List S67) (dn : Bool) (fu fa : Int) (name : ByteArray) (wr : Bool) (rf : Int → Bool → Int) (df : Int → List S67) : List S67 × Bool × Int × Int × Int :=
  if rightF l = true then
    if dn = true then (l, dn, fu, fa, 17)
    else if rf (bsOf l name : Int) (isAt l name (bsOf l name)) = 0 then
      if fa = 0 then (l, dn, fu, -1, 18)
      else if fu = 0 then (if wr = true then df (bsOf l name : Int) else l, true, fu, (if 0 < fa then wrap64 (fa - 1) else fa), 17)
      else (df (bsOf l name : Int), dn, (if 0 < fu then wrap64 (fu - 1) else fu), (if 0 < fa then wrap64 (fa - 1) else fa), 0)
    else (l, dn, fu, fa, rf (bsOf l name : Int) (isAt l name (bsOf l name)))
  else ([], false, 0, 0, 6)
def OfV (W : World) (K : Nat) (caps : Array Value) (l : List S67) (dn : Bool) (fu fa : Int) (wr : Bool) (rf : Int → Bool → Int) (df : Int → List S67) : Prop :=
  ∀ (w1 : World) (gp : Nat) (v : Value), Below W.heap.size W w1 → W.heap.size ≤ gp → w1.heap[gp]? = some (.cells #[v, .bool dn, .int .i64 fu, .int .i64 fa] 211 (0, 0)) → Kd.R k67 67 w1 W.heap.size (fun _ => True) v l → rightF l = true →
    Calls Tryz.prog K (#[.pointer (some ⟨gp, 0, none⟩)] ++ caps) w1 fun e w2 => ∃ rv dv : Value, e = .returned (.agg #[rv, dv, .bool wr]) ∧ Below w1.heap.size w1 w2 ∧ RefV w2 rv l.length rf ∧ DoV W.heap.size gp w2 dv v l rf df
theorem put4 {W : World} {g t : Nat} {a0 a1 a2 a3 : Value} (h : W.heap[g]? = some (.cells #[a0, a1, a2, a3] t (0, 0))) (x0 x1 x2 x3 : Value) :
    ((((W.setCell ⟨g, 0, none⟩ x0).setCell ⟨g, 1, none⟩ x1).setCell ⟨g, 2, none⟩ x2).setCell ⟨g, 3, none⟩ x3).heap[g]? = some (.cells #[x0, x1, x2, x3] t (0, 0)) :=
  blk_put (cs := #[x0, x1, x2, a3]) (blk_put (cs := #[x0, x1, a2, a3]) (blk_put (cs := #[x0, a1, a2, a3]) (blk_put (cs := #[a0, a1, a2, a3]) h 0 _ rfl) 1 _ rfl) 2 _ rfl) 3 _ rfl
theorem far4 {W : World} {g g' t : Nat} {cs : Array Value} (h : W.heap[g]? = some (.cells cs t (0, 0))) (hp : g ≠ g') (x0 x1 x2 x3 : Value) :
    ((((W.setCell ⟨g', 0, none⟩ x0).setCell ⟨g', 1, none⟩ x1).setCell ⟨g', 2, none⟩ x2).setCell ⟨g', 3, none⟩ x3).heap[g]? = some (.cells cs t (0, 0)) :=
  blk_far (p := ⟨g', 3, none⟩) (blk_far (p := ⟨g', 2, none⟩) (blk_far (p := ⟨g', 1, none⟩) (blk_far (p := ⟨g', 0, none⟩) h hp _) hp _) hp _) hp _
theorem below4 {w W : World} {g : Nat} (h : Below w.heap.size w W) (hg : w.heap.size ≤ g) (x0 x1 x2 x3 : Value) :
    Below w.heap.size w ((((W.setCell ⟨g, 0, none⟩ x0).setCell ⟨g, 1, none⟩ x1).setCell ⟨g, 2, none⟩ x2).setCell ⟨g, 3, none⟩ x3) :=
  below_set (below_set (below_set (below_set h hg) hg) hg) hg
theorem R4 {W : World} {base g t : Nat} {cs : Array Value} {v : Value} {l : List S67} (h : Kd.R k67 67 W base (fun _ => True) v l) (hb : W.heap[g]? = some (.cells cs t (0, 0))) (ht : 67 ≠ t) (x0 x1 x2 x3 : Value) :
    Kd.R k67 67 ((((W.setCell ⟨g, 0, none⟩ x0).setCell ⟨g, 1, none⟩ x1).setCell ⟨g, 2, none⟩ x2).setCell ⟨g, 3, none⟩ x3) base (fun _ => True) v l :=
  Kd.R_mono (Kd.R_far (p := ⟨g, 3, none⟩) (Kd.R_far (p := ⟨g, 2, none⟩) (Kd.R_far (p := ⟨g, 1, none⟩) (Kd.R_far (p := ⟨g, 0, none⟩) (Kd.R_types h hb (fun q hq => by
    rw [show k67.E = [] from rfl] at hq
    rw [List.mem_singleton.1 hq]
    exact ht)) (fun _ hk => hk.2) _) (fun _ hk => hk.2) _) (fun _ hk => hk.2) _) (fun _ hk => hk.2) _) (fun _ _ => trivial)
theorem put3 {W : World} {g t : Nat} {a0 a1 a2 : Value} (h : W.heap[g]? = some (.cells #[a0, a1, a2] t (0, 0))) (x0 x1 x2 : Value) :
    (((W.setCell ⟨g, 0, none⟩ x0).setCell ⟨g, 1, none⟩ x1).setCell ⟨g, 2, none⟩ x2).heap[g]? = some (.cells #[x0, x1, x2] t (0, 0)) :=
  blk_put (cs := #[x0, x1, a2]) (blk_put (cs := #[x0, a1, a2]) (blk_put (cs := #[a0, a1, a2]) h 0 _ rfl) 1 _ rfl) 2 _ rfl
theorem far3 {W : World} {g g' t : Nat} {cs : Array Value} (h : W.heap[g]? = some (.cells cs t (0, 0))) (hp : g ≠ g') (x0 x1 x2 : Value) :
    (((W.setCell ⟨g', 0, none⟩ x0).setCell ⟨g', 1, none⟩ x1).setCell ⟨g', 2, none⟩ x2).heap[g]? = some (.cells cs t (0, 0)) :=
  blk_far (p := ⟨g', 2, none⟩) (blk_far (p := ⟨g', 1, none⟩) (blk_far (p := ⟨g', 0, none⟩) h hp _) hp _) hp _
theorem below3 {w W : World} {g : Nat} (h : Below w.heap.size w W) (hg : w.heap.size ≤ g) (x0 x1 x2 : Value) :
    Below w.heap.size w (((W.setCell ⟨g, 0, none⟩ x0).setCell ⟨g, 1, none⟩ x1).setCell ⟨g, 2, none⟩ x2) :=
  below_set (below_set (below_set h hg) hg) hg
theorem R3 {W : World} {base g t : Nat} {cs : Array Value} {v : Value} {l : List S67} (h : Kd.R k67 67 W base (fun _ => True) v l) (hb : W.heap[g]? = some (.cells cs t (0, 0))) (ht : 67 ≠ t) (x0 x1 x2 : Value) :
    Kd.R k67 67 (((W.setCell ⟨g, 0, none⟩ x0).setCell ⟨g, 1, none⟩ x1).setCell ⟨g, 2, none⟩ x2) base (fun _ => True) v l :=
  Kd.R_mono (Kd.R_far (p := ⟨g, 2, none⟩) (Kd.R_far (p := ⟨g, 1, none⟩) (Kd.R_far (p := ⟨g, 0, none⟩) (Kd.R_types h hb (fun q hq => by
    rw [show k67.E = [] from rfl] at hq
    rw [List.mem_singleton.1 hq]
    exact ht)) (fun _ hk => hk.2) _) (fun _ hk => hk.2) _) (fun _ hk => hk.2) _) (fun _ _ => trivial)
theorem R1 {W : World} {base g t j : Nat} {cs : Array Value} {v : Value} {l : List S67} (h : Kd.R k67 67 W base (fun _ => True) v l) (hb : W.heap[g]? = some (.cells cs t (0, 0))) (ht : 67 ≠ t) (x : Value) :
    Kd.R k67 67 (W.setCell ⟨g, j, none⟩ x) base (fun _ => True) v l :=
  Kd.R_mono (Kd.R_far (p := ⟨g, j, none⟩) (Kd.R_types h hb (fun q hq => by
    rw [show k67.E = [] from rfl] at hq
    rw [List.mem_singleton.1 hq]
    exact ht)) (fun _ hk => hk.2) _) (fun _ _ => trivial)
set_option maxHeartbeats 4000000 in
set_option maxRecDepth 100000 in
theorem changed_any (K : Nat) (caps : Array Value) (hK : Enters K) (A : Option Addr) (c : Nat) (l : List S67) (dn : Bool) (fu fa : Int) (name : ByteArray) (w : World)
    (hr : Kd.C k67 w A l.length l) (hc : l.length ≤ c) (wr : Bool) (rf : Int → Bool → Int) (df : Int → List S67) (HOF : OfV w K caps l dn fu fa wr rf df) :
    Calls Tryz.prog 117 #[.agg #[.slice A l.length c, .bool dn, .int .i64 fu, .int .i64 fa], .string name, .func (.func K) #[] caps] w fun e w' => ∃ v0_ : Value,
      e = .returned (.tuple #[.agg #[v0_, .bool (changedF l dn fu fa name wr rf df).2.1, .int .i64 (changedF l dn fu fa name wr rf df).2.2.1, .int .i64 (changedF l dn fu fa name wr rf df).2.2.2.1], .int .i64 (changedF l dn fu fa name wr rf df).2.2.2.2]) ∧
        Kd.R k67 67 w' w.heap.size (fun _ => True) v0_ (changedF l dn fu fa name wr rf df).1 ∧ Below w.heap.size w w' := by
  obtain ⟨R, hR⟩ : ∃ R, R = changedF l dn fu fa name wr rf df := ⟨_, rfl⟩
  rw [← hR]
  have HRR := Aside0.mk hR
  clear hR
  have HR := Aside0.mk hr
  have HOF' := Aside0.mk HOF
  have HK := Aside0.mk hK
  clear hr HOF hK
  have HB := Aside0.mk (Below.refl w.heap.size w)
  go_enter Tryz.func117, Tryz.ntmps117
  go_wp2_with (first
    | ((with_reducible refine gate_dst (N := 3) rfl ?_);
        refine box_event ?hg (N := 3) ?hd (cs := #[.slice A l.length c, .bool dn, .int .i64 fu, .int .i64 fa]) (t := 27) ?hr ?_;
        (case hd => rfl); (case hg => rfl); (case hr => first | (go_simp; done) | (go_simp; rfl));
        intro g3 hg w1 hbox hb;
        have n0_ := Aside0.mk (below_step HB.out hb); have n1_ := Aside0.mk (show w.heap.size ≤ g3 by rw [hg]; exact HB.out.size);
        clear HB; have HB := n0_; have G3 := n1_; have BK3 := Aside0.mk hbox; clear n0_ n1_ hg hbox hb)
    | ((with_reducible refine gate_dst (N := 6) rfl ?_);
        refine box_event ?hg (N := 6) ?hd (cs := #[.slice none 0 0, .bool false, .int .i64 0, .int .i64 0]) (t := 27) ?hr ?_;
        (case hd => rfl); (case hg => rfl); (case hr => first | (go_simp; done) | (go_simp; rfl));
        intro g6 hg w2 hbox hb;
        have n0_ := Aside0.mk (below_step HB.out hb); have n1_ := Aside0.mk (show w.heap.size ≤ g6 by rw [hg]; exact HB.out.size);
        have n2_ := Aside0.mk (blk_below BK3.out hb); have n3_ := Aside0.mk (show g3 ≠ g6 by rw [hg]; exact Nat.ne_of_lt (blk_lt BK3.out));
        clear HB BK3; have HB := n0_; have G6 := n1_; have BK3 := n2_; have N36 := n3_; have BK6 := Aside0.mk hbox; clear n0_ n1_ n2_ n3_ hg hbox hb;
        have hc3_0 : w2.cell? ⟨g3, 0, none⟩ = some (.slice A l.length c) := (blk_cell BK3.out 0).trans rfl;
        have hc3_1 : w2.cell? ⟨g3, 1, none⟩ = some (.bool dn) := (blk_cell BK3.out 1).trans rfl;
        have hc3_2 : w2.cell? ⟨g3, 2, none⟩ = some (.int .i64 fu) := (blk_cell BK3.out 2).trans rfl;
        have hc3_3 : w2.cell? ⟨g3, 3, none⟩ = some (.int .i64 fa) := (blk_cell BK3.out 3).trans rfl)
    | fail)
  by_cases hok : rightF l = true
  · have hle : l.length ≤ 64 := by
      simp only [rightF, Bool.and_eq_true, decide_eq_true_eq] at hok
      exact hok.2
    have HOK := Aside0.mk hok
    refine ((disk_Check.calls A c l dn fu fa 0 w2 (Kd.C_below HR.out HB.out) hc (by rw [disk_Check.f, if_pos hok])).mono ?_)
    clear hok
    rintro e w3 ⟨rfl, hb⟩
    have n0_ := Aside0.mk (below_step HB.out hb); have n1_ := Aside0.mk (blk_below BK3.out hb); have n2_ := Aside0.mk (blk_below BK6.out hb)
    clear HB BK3 BK6 hc3_0 hc3_1 hc3_2 hc3_3; have HB := n0_; have BK3 := n1_; have BK6 := n2_; clear n0_ n1_ n2_ hb
    have ca0 : w3.cell? ⟨g3, 0, none⟩ = some (Value.slice A l.length c) := (blk_cell BK3.out 0).trans rfl
    have fa0 := blk_frozen BK3.out 0
    have ca1 : w3.cell? ⟨g3, 1, none⟩ = some (Value.bool dn) := (blk_cell BK3.out 1).trans rfl
    have fa1 := blk_frozen BK3.out 1
    have ca2 : w3.cell? ⟨g3, 2, none⟩ = some (Value.int .i64 fu) := (blk_cell BK3.out 2).trans rfl
    have fa2 := blk_frozen BK3.out 2
    have ca3 : w3.cell? ⟨g3, 3, none⟩ = some (Value.int .i64 fa) := (blk_cell BK3.out 3).trans rfl
    have fa3 := blk_frozen BK3.out 3
    go_wp2_with fail
    refine ((api_File.calls A c l l w3 (Kd.C_below HR.out HB.out) hc (by rw [api_File.f, if_pos (by omega)])).mono ?_)
    rintro e w4 ⟨v, rfl, ho, hb⟩
    have n0_ := Aside0.mk (below_step HB.out hb); have n1_ := Aside0.mk (blk_below BK3.out hb); have n2_ := Aside0.mk (blk_below BK6.out hb); have HO := Aside0.mk (Kd.R_lower ho HB.out.size)
    clear HB BK3 BK6; clear ca0 fa0 ca1 fa1 ca2 fa2 ca3 fa3; have HB := n0_; have BK3 := n1_; have BK6 := n2_; clear n0_ n1_ n2_ hb ho
    obtain ⟨Ao, co, eo⟩ := Kd.R_slice HO.out
    subst eo
    have ca0 : w4.cell? ⟨g3, 0, none⟩ = some (Value.slice A l.length c) := (blk_cell BK3.out 0).trans rfl
    have fa0 := blk_frozen BK3.out 0
    have ca1 : w4.cell? ⟨g3, 1, none⟩ = some (Value.bool dn) := (blk_cell BK3.out 1).trans rfl
    have fa1 := blk_frozen BK3.out 1
    have ca2 : w4.cell? ⟨g3, 2, none⟩ = some (Value.int .i64 fu) := (blk_cell BK3.out 2).trans rfl
    have fa2 := blk_frozen BK3.out 2
    have ca3 : w4.cell? ⟨g3, 3, none⟩ = some (Value.int .i64 fa) := (blk_cell BK3.out 3).trans rfl
    have fa3 := blk_frozen BK3.out 3
    by_cases hdn : dn = true
    · subst hdn
      have HE : Aside0 (R = (l, true, fu, fa, 17)) := ⟨by rw [HRR.out, changedF, if_pos HOK.out, if_pos rfl]⟩
      go_wp2_with (first
        | ((with_reducible refine gate_dst (N := 26) rfl ?_);
            refine box_event ?hg (N := 26) ?hd (cs := #[(.slice Ao l.length co), .bool true, .int .i64 fu, .int .i64 fa]) (t := 211) ?hr ?_;
            (case hd => rfl); (case hg => rfl); (case hr => first | (go_simp; done) | (go_simp; rfl));
            intro gp hg w5 hbox hb;
            have m0_ := below_set (g := g3) (j := 0) (v := (.slice Ao l.length co)) HB.out G3.out;
            have m1_ := blk_put (cs' := #[(.slice Ao l.length co), .bool true, .int .i64 fu, .int .i64 fa]) BK3.out 0 (.slice Ao l.length co) rfl;
            have m2_ := blk_far (p := ⟨g3, 0, none⟩) BK6.out (fun e => N36.out e.symm) (.slice Ao l.length co);
            have m3_ := R1 (j := 0) HO.out BK3.out (by decide) (.slice Ao l.length co);
            have n0_ := Aside0.mk (below_step m0_ hb); have n1_ := Aside0.mk (show w.heap.size ≤ gp by rw [hg]; exact m0_.size);
            have n2_ := Aside0.mk (blk_below m1_ hb); have n3_ := Aside0.mk (blk_below m2_ hb); have n4_ := Aside0.mk (Kd.R_below m3_ hb);
            have n5_ := Aside0.mk (show g3 ≠ gp by rw [hg]; exact Nat.ne_of_lt (blk_lt m1_)); have n6_ := Aside0.mk (show g6 ≠ gp by rw [hg]; exact Nat.ne_of_lt (blk_lt m2_));
            clear ca0 fa0 ca1 fa1 ca2 fa2 ca3 fa3; clear HB BK3 BK6 HO m0_ m1_ m2_ m3_; have HB := n0_; have GP := n1_; have BK3 := n2_; have BK6 := n3_; have HO := n4_; have N3P := n5_; have N6P := n6_; have BKP := Aside0.mk hbox;
            clear n0_ n1_ n2_ n3_ n4_ n5_ n6_ hg hbox hb;
            have cp0 : w5.cell? ⟨gp, 0, none⟩ = some (Value.slice Ao l.length co) := (blk_cell BKP.out 0).trans rfl;
            have fp0 := blk_frozen BKP.out 0;
            have cp1 : w5.cell? ⟨gp, 1, none⟩ = some (Value.bool true) := (blk_cell BKP.out 1).trans rfl;
            have fp1 := blk_frozen BKP.out 1;
            have cp2 : w5.cell? ⟨gp, 2, none⟩ = some (Value.int .i64 fu) := (blk_cell BKP.out 2).trans rfl;
            have fp2 := blk_frozen BKP.out 2;
            have cp3 : w5.cell? ⟨gp, 3, none⟩ = some (Value.int .i64 fa) := (blk_cell BKP.out 3).trans rfl;
            have fp3 := blk_frozen BKP.out 3;
            have ca0 : w5.cell? ⟨g3, 0, none⟩ = some (Value.slice Ao l.length co) := (blk_cell BK3.out 0).trans rfl;
            have fa0 := blk_frozen BK3.out 0;
            have ca1 : w5.cell? ⟨g3, 1, none⟩ = some (Value.bool true) := (blk_cell BK3.out 1).trans rfl;
            have fa1 := blk_frozen BK3.out 1;
            have ca2 : w5.cell? ⟨g3, 2, none⟩ = some (Value.int .i64 fu) := (blk_cell BK3.out 2).trans rfl;
            have fa2 := blk_frozen BK3.out 2;
            have ca3 : w5.cell? ⟨g3, 3, none⟩ = some (Value.int .i64 fa) := (blk_cell BK3.out 3).trans rfl;
            have fa3 := blk_frozen BK3.out 3;
            have cb0 : w5.cell? ⟨g6, 0, none⟩ = some (Value.slice none 0 0) := (blk_cell BK6.out 0).trans rfl;
            have fb0 := blk_frozen BK6.out 0;
            have cb1 : w5.cell? ⟨g6, 1, none⟩ = some (Value.bool false) := (blk_cell BK6.out 1).trans rfl;
            have fb1 := blk_frozen BK6.out 1;
            have cb2 : w5.cell? ⟨g6, 2, none⟩ = some (Value.int .i64 0) := (blk_cell BK6.out 2).trans rfl;
            have fb2 := blk_frozen BK6.out 2;
            have cb3 : w5.cell? ⟨g6, 3, none⟩ = some (Value.int .i64 0) := (blk_cell BK6.out 3).trans rfl;
            have fb3 := blk_frozen BK6.out 3)
        | fail)
      refine bodyPost_ret (results_ct rfl _ _ g6 27 #[Value.slice Ao l.length co, Value.bool true, Value.int .i64 fu, Value.int .i64 fa] (0, 0) _ rfl (put4 BK6.out _ _ _ _) Tryz.underlying27 rfl (by kernel_rfl)) rfl ?_
      rw [HE.out]
      exact ⟨_, rfl, R4 HO.out BK6.out (by decide) _ _ _ _, below4 HB.out G6.out _ _ _ _⟩
    · have hdn2 : dn = false := by simpa using hdn
      subst hdn2
      clear hdn
      have hK := HK.out
      go_wp2_with (first
        | ((with_reducible refine gate_dst (N := 26) rfl ?_);
            refine box_event ?hg (N := 26) ?hd (cs := #[(.slice Ao l.length co), .bool false, .int .i64 fu, .int .i64 fa]) (t := 211) ?hr ?_;
            (case hd => rfl); (case hg => rfl); (case hr => first | (go_simp; done) | (go_simp; rfl));
            intro gp hg w5 hbox hb;
            have m0_ := below_set (g := g3) (j := 0) (v := (.slice Ao l.length co)) HB.out G3.out;
            have m1_ := blk_put (cs' := #[(.slice Ao l.length co), .bool false, .int .i64 fu, .int .i64 fa]) BK3.out 0 (.slice Ao l.length co) rfl;
            have m2_ := blk_far (p := ⟨g3, 0, none⟩) BK6.out (fun e => N36.out e.symm) (.slice Ao l.length co);
            have m3_ := R1 (j := 0) HO.out BK3.out (by decide) (.slice Ao l.length co);
            have n0_ := Aside0.mk (below_step m0_ hb); have n1_ := Aside0.mk (show w.heap.size ≤ gp by rw [hg]; exact m0_.size);
            have n2_ := Aside0.mk (blk_below m1_ hb); have n3_ := Aside0.mk (blk_below m2_ hb); have n4_ := Aside0.mk (Kd.R_below m3_ hb);
            have n5_ := Aside0.mk (show g3 ≠ gp by rw [hg]; exact Nat.ne_of_lt (blk_lt m1_)); have n6_ := Aside0.mk (show g6 ≠ gp by rw [hg]; exact Nat.ne_of_lt (blk_lt m2_));
            clear ca0 fa0 ca1 fa1 ca2 fa2 ca3 fa3; clear HB BK3 BK6 HO m0_ m1_ m2_ m3_; have HB := n0_; have GP := n1_; have BK3 := n2_; have BK6 := n3_; have HO := n4_; have N3P := n5_; have N6P := n6_; have BKP := Aside0.mk hbox;
            clear n0_ n1_ n2_ n3_ n4_ n5_ n6_ hg hbox hb;
            have cp0 : w5.cell? ⟨gp, 0, none⟩ = some (Value.slice Ao l.length co) := (blk_cell BKP.out 0).trans rfl;
            have fp0 := blk_frozen BKP.out 0;
            have cp1 : w5.cell? ⟨gp, 1, none⟩ = some (Value.bool false) := (blk_cell BKP.out 1).trans rfl;
            have fp1 := blk_frozen BKP.out 1;
            have cp2 : w5.cell? ⟨gp, 2, none⟩ = some (Value.int .i64 fu) := (blk_cell BKP.out 2).trans rfl;
            have fp2 := blk_frozen BKP.out 2;
            have cp3 : w5.cell? ⟨gp, 3, none⟩ = some (Value.int .i64 fa) := (blk_cell BKP.out 3).trans rfl;
            have fp3 := blk_frozen BKP.out 3;
            have ca0 : w5.cell? ⟨g3, 0, none⟩ = some (Value.slice Ao l.length co) := (blk_cell BK3.out 0).trans rfl;
            have fa0 := blk_frozen BK3.out 0;
            have ca1 : w5.cell? ⟨g3, 1, none⟩ = some (Value.bool false) := (blk_cell BK3.out 1).trans rfl;
            have fa1 := blk_frozen BK3.out 1;
            have ca2 : w5.cell? ⟨g3, 2, none⟩ = some (Value.int .i64 fu) := (blk_cell BK3.out 2).trans rfl;
            have fa2 := blk_frozen BK3.out 2;
            have ca3 : w5.cell? ⟨g3, 3, none⟩ = some (Value.int .i64 fa) := (blk_cell BK3.out 3).trans rfl;
            have fa3 := blk_frozen BK3.out 3)
        | fail)
      rw [hK _ _, Oper.upon_enter]
      refine ((HOF'.out w5 gp _ HB.out GP.out BKP.out HO.out HOK.out).mono ?_)
      clear hK
      rintro e w6 ⟨rv, dv, rfl, hb, ⟨Kr, cr, rfl, hKr, hrf⟩, ⟨Kd_, cd, rfl, hKd, hdo⟩⟩
      have HKr := Aside0.mk hKr
      have HKd := Aside0.mk hKd
      have Hrf := Aside0.mk hrf
      have Hdo := Aside0.mk hdo
      have n0_ := Aside0.mk (below_step HB.out hb); have n1_ := Aside0.mk (blk_below BK3.out hb); have n2_ := Aside0.mk (blk_below BK6.out hb)
      have n3_ := Aside0.mk (blk_below BKP.out hb); have n4_ := Aside0.mk (Kd.R_below HO.out hb)
      clear HB BK3 BK6 BKP HO hKr hKd hrf hdo; clear ca0 fa0 ca1 fa1 ca2 fa2 ca3 fa3; clear cp0 fp0 cp1 fp1 cp2 fp2 cp3 fp3; have HB := n0_; have BK3 := n1_; have BK6 := n2_; have BKP := n3_; have HO := n4_; clear n0_ n1_ n2_ n3_ n4_ hb
      go_wp2_with (first
        | ((with_reducible refine gate_dst (N := 10) rfl ?_);
            refine box_event ?hg (N := 10) ?hd (cs := #[.nilFunc, .nilFunc, .bool false]) (t := 179) ?hr ?_;
            (case hd => rfl); (case hg => rfl); (case hr => first | (go_simp; done) | (go_simp; rfl));
            intro gc hg w7 hbox hb;
            have n0_ := Aside0.mk (below_step HB.out hb); have n1_ := Aside0.mk (show w.heap.size ≤ gc by rw [hg]; exact HB.out.size);
            have n2_ := Aside0.mk (blk_below BK3.out hb); have n3_ := Aside0.mk (blk_below BK6.out hb); have n4_ := Aside0.mk (blk_below BKP.out hb); have n5_ := Aside0.mk (Kd.R_below HO.out hb);
            have n6_ := Aside0.mk (show g3 ≠ gc by rw [hg]; exact Nat.ne_of_lt (blk_lt BK3.out)); have n7_ := Aside0.mk (show g6 ≠ gc by rw [hg]; exact Nat.ne_of_lt (blk_lt BK6.out)); have n8_ := Aside0.mk (show gp ≠ gc by rw [hg]; exact Nat.ne_of_lt (blk_lt BKP.out));
            have n9_ := Aside0.mk (show w6.heap.size ≤ gc by rw [hg]; exact Nat.le_refl _);
            have H6 := Aside0.mk hb;
            clear HB BK3 BK6 BKP HO; have HB := n0_; have GC := n1_; have BK3 := n2_; have BK6 := n3_; have BKP := n4_; have HO := n5_; have N3C := n6_; have N6C := n7_; have NPC := n8_; have GC6 := n9_; have BKC := Aside0.mk hbox;
            clear n0_ n1_ n2_ n3_ n4_ n5_ n6_ n7_ n8_ n9_ hg hbox hb;
            have hq1 : g3 ≠ gc := N3C.out; have hq2 : gc ≠ g3 := fun e => N3C.out e.symm;
            have ca0 : w7.cell? ⟨g3, 0, none⟩ = some (Value.slice Ao l.length co) := (blk_cell BK3.out 0).trans rfl;
            have fa0 := blk_frozen BK3.out 0;
            have ca1 : w7.cell? ⟨g3, 1, none⟩ = some (Value.bool false) := (blk_cell BK3.out 1).trans rfl;
            have fa1 := blk_frozen BK3.out 1;
            have ca2 : w7.cell? ⟨g3, 2, none⟩ = some (Value.int .i64 fu) := (blk_cell BK3.out 2).trans rfl;
            have fa2 := blk_frozen BK3.out 2;
            have ca3 : w7.cell? ⟨g3, 3, none⟩ = some (Value.int .i64 fa) := (blk_cell BK3.out 3).trans rfl;
            have fa3 := blk_frozen BK3.out 3;
            have cc0 : w7.cell? ⟨gc, 0, none⟩ = some (Value.nilFunc) := (blk_cell BKC.out 0).trans rfl;
            have fc0 := blk_frozen BKC.out 0;
            have cc1 : w7.cell? ⟨gc, 1, none⟩ = some (Value.nilFunc) := (blk_cell BKC.out 1).trans rfl;
            have fc1 := blk_frozen BKC.out 1;
            have cc2 : w7.cell? ⟨gc, 2, none⟩ = some (Value.bool false) := (blk_cell BKC.out 2).trans rfl;
            have fc2 := blk_frozen BKC.out 2)
        | fail)
      clear hq1 hq2
      have k0 := below3 HB.out GC.out (.func (.func Kr) #[] cr) (.func (.func Kd_) #[] cd) (.bool wr)
      have k1 := far3 BK3.out N3C.out (.func (.func Kr) #[] cr) (.func (.func Kd_) #[] cd) (.bool wr)
      have k2 := far3 BK6.out N6C.out (.func (.func Kr) #[] cr) (.func (.func Kd_) #[] cd) (.bool wr)
      have k3 := far3 BKP.out NPC.out (.func (.func Kr) #[] cr) (.func (.func Kd_) #[] cd) (.bool wr)
      have k4 := put3 BKC.out (.func (.func Kr) #[] cr) (.func (.func Kd_) #[] cd) (.bool wr)
      have k5 := R3 HO.out BKC.out (by decide) (.func (.func Kr) #[] cr) (.func (.func Kd_) #[] cd) (.bool wr)
      have k6 := below3 H6.out GC6.out (.func (.func Kr) #[] cr) (.func (.func Kd_) #[] cd) (.bool wr)
      have k7 := (Kd.R_reads k5)
      obtain ⟨A7, c7, he7, hl7, hr7⟩ := k7
      obtain ⟨rfl, rfl⟩ : A7 = Ao ∧ c7 = co := by injection he7 with e1 _ e2; exact ⟨e1.symm, e2.symm⟩
      clear he7
      refine ((disk_place.calls A7 c7 l false fu fa name _ _ _ hr7 hl7 (by rw [disk_place.f, if_pos hle])).mono ?_)
      rintro e w9 ⟨rfl, hb⟩
      obtain ⟨i, hi⟩ : ∃ i, i = bsOf l name := ⟨_, rfl⟩
      rw [← hi]
      obtain ⟨b, hbe⟩ : ∃ b, b = isAt l name i := ⟨_, rfl⟩
      rw [← hbe]
      have HI := Aside0.mk hi
      have HBE := Aside0.mk hbe
      have hil : i ≤ l.length := by rw [hi]; exact (bsGo_le l name _ _ _ (Nat.zero_le _)).2
      have hib : Aside0 (b = true → i < l.length) := ⟨fun h => by
        rw [hbe, isAt, Bool.and_eq_true, decide_eq_true_eq] at h
        exact h.1⟩
      clear hi hbe hl7 hr7
      have n0_ := Aside0.mk (below_step k0 hb); have n1_ := Aside0.mk (blk_below k1 hb); have n2_ := Aside0.mk (blk_below k2 hb); have n3_ := Aside0.mk (blk_below k3 hb); have n4_ := Aside0.mk (blk_below k4 hb); have n5_ := Aside0.mk (Kd.R_below k5 hb); have n6_ := Aside0.mk (below_step k6 hb)
      clear HB BK3 BK6 BKP BKC HO H6 k0 k1 k2 k3 k4 k5 k6; clear ca0 fa0 ca1 fa1 ca2 fa2 ca3 fa3; clear cc0 fc0 cc1 fc1 cc2 fc2; have HB := n0_; have BK3 := n1_; have BK6 := n2_; have BKP := n3_; have BKC := n4_; have HO := n5_; have H6 := n6_; clear n0_ n1_ n2_ n3_ n4_ n5_ n6_ hb
      have cc0 : w9.cell? ⟨gc, 0, none⟩ = some (Value.func (.func Kr) #[] cr) := (blk_cell BKC.out 0).trans rfl
      have fc0 := blk_frozen BKC.out 0
      have cc1 : w9.cell? ⟨gc, 1, none⟩ = some (Value.func (.func Kd_) #[] cd) := (blk_cell BKC.out 1).trans rfl
      have fc1 := blk_frozen BKC.out 1
      have cc2 : w9.cell? ⟨gc, 2, none⟩ = some (Value.bool wr) := (blk_cell BKC.out 2).trans rfl
      have fc2 := blk_frozen BKC.out 2
      have hKr := HKr.out
      go_wp2_with fail
      rw [hKr _ _, Oper.upon_enter]
      clear hKr
      refine ((Hrf.out w9 i b (KeepT.of_below H6.out) hil hib.out).mono ?_)
      rintro e w10 ⟨rfl, hb⟩
      obtain ⟨r, hr⟩ : ∃ r, r = rf (i : Int) b := ⟨_, rfl⟩
      rw [← hr]
      have HRF := Aside0.mk hr
      clear hr
      have n0_ := Aside0.mk (below_step HB.out hb); have n1_ := Aside0.mk (blk_below BK3.out hb); have n2_ := Aside0.mk (blk_below BK6.out hb); have n3_ := Aside0.mk (blk_below BKP.out hb); have n4_ := Aside0.mk (blk_below BKC.out hb); have n5_ := Aside0.mk (Kd.R_below HO.out hb); have n6_ := Aside0.mk (below_step H6.out hb)
      clear HB BK3 BK6 BKP BKC HO H6; clear cc0 fc0 cc1 fc1 cc2 fc2; have HB := n0_; have BK3 := n1_; have BK6 := n2_; have BKP := n3_; have BKC := n4_; have HO := n5_; have H6 := n6_; clear n0_ n1_ n2_ n3_ n4_ n5_ n6_ hb
      have ca0 : w10.cell? ⟨g3, 0, none⟩ = some (Value.slice A7 l.length c7) := (blk_cell BK3.out 0).trans rfl
      have fa0 := blk_frozen BK3.out 0
      have ca1 : w10.cell? ⟨g3, 1, none⟩ = some (Value.bool false) := (blk_cell BK3.out 1).trans rfl
      have fa1 := blk_frozen BK3.out 1
      have ca2 : w10.cell? ⟨g3, 2, none⟩ = some (Value.int .i64 fu) := (blk_cell BK3.out 2).trans rfl
      have fa2 := blk_frozen BK3.out 2
      have ca3 : w10.cell? ⟨g3, 3, none⟩ = some (Value.int .i64 fa) := (blk_cell BK3.out 3).trans rfl
      have fa3 := blk_frozen BK3.out 3
      have cb0 : w10.cell? ⟨g6, 0, none⟩ = some (Value.slice none 0 0) := (blk_cell BK6.out 0).trans rfl
      have fb0 := blk_frozen BK6.out 0
      have cb1 : w10.cell? ⟨g6, 1, none⟩ = some (Value.bool false) := (blk_cell BK6.out 1).trans rfl
      have fb1 := blk_frozen BK6.out 1
      have cb2 : w10.cell? ⟨g6, 2, none⟩ = some (Value.int .i64 0) := (blk_cell BK6.out 2).trans rfl
      have fb2 := blk_frozen BK6.out 2
      have cb3 : w10.cell? ⟨g6, 3, none⟩ = some (Value.int .i64 0) := (blk_cell BK6.out 3).trans rfl
      have fb3 := blk_frozen BK6.out 3
      have cp0 : w10.cell? ⟨gp, 0, none⟩ = some (Value.slice A7 l.length c7) := (blk_cell BKP.out 0).trans rfl
      have fp0 := blk_frozen BKP.out 0
      have cp1 : w10.cell? ⟨gp, 1, none⟩ = some (Value.bool false) := (blk_cell BKP.out 1).trans rfl
      have fp1 := blk_frozen BKP.out 1
      have cp2 : w10.cell? ⟨gp, 2, none⟩ = some (Value.int .i64 fu) := (blk_cell BKP.out 2).trans rfl
      have fp2 := blk_frozen BKP.out 2
      have cp3 : w10.cell? ⟨gp, 3, none⟩ = some (Value.int .i64 fa) := (blk_cell BKP.out 3).trans rfl
      have fp3 := blk_frozen BKP.out 3
      have cc0 : w10.cell? ⟨gc, 0, none⟩ = some (Value.func (.func Kr) #[] cr) := (blk_cell BKC.out 0).trans rfl
      have fc0 := blk_frozen BKC.out 0
      have cc1 : w10.cell? ⟨gc, 1, none⟩ = some (Value.func (.func Kd_) #[] cd) := (blk_cell BKC.out 1).trans rfl
      have fc1 := blk_frozen BKC.out 1
      have cc2 : w10.cell? ⟨gc, 2, none⟩ = some (Value.bool wr) := (blk_cell BKC.out 2).trans rfl
      have fc2 := blk_frozen BKC.out 2
      by_cases hr0 : r = 0
      · subst hr0
        have q1 : g3 ≠ gp := N3P.out
        have q2 : gp ≠ g3 := fun e => N3P.out e.symm
        have q3 : g6 ≠ gp := N6P.out
        have q4 : gp ≠ g6 := fun e => N6P.out e.symm
        have q5 : gp ≠ gc := NPC.out
        have q6 : gc ≠ gp := fun e => NPC.out e.symm
        by_cases hf0 : fa = 0
        · have hf1 : (fa == 0) = true := by simpa using hf0
          have HE : Aside0 (R = (l, false, fu, -1, 18)) := ⟨by rw [HRR.out, changedF, if_pos HOK.out, if_neg (by decide), ← HI.out, ← HBE.out, ← HRF.out, if_pos rfl, if_pos hf0]⟩
          go_wp2
          refine bodyPost_ret (results_ct rfl _ _ g6 27 #[Value.slice A7 l.length c7, Value.bool false, Value.int .i64 fu, Value.int .i64 (-1)] (0, 0) _ rfl (put4 (blk_far (p := ⟨gp, 3, none⟩) BK6.out N6P.out (Value.int .i64 (-1))) _ _ _ _) Tryz.underlying27 rfl (by kernel_rfl)) rfl ?_
          rw [HE.out]
          exact ⟨_, rfl, R4 (R1 (j := 3) HO.out BKP.out (by decide) (Value.int .i64 (-1))) (blk_far (p := ⟨gp, 3, none⟩) BK6.out N6P.out (Value.int .i64 (-1))) (by decide) _ _ _ _, below4 (below_set (j := 3) (v := Value.int .i64 (-1)) HB.out GP.out) G6.out _ _ _ _⟩
        · have hf1 : (fa == 0) = false := by simpa using hf0
          by_cases hfp : 0 < fa
          · have hfd : decide (0 < fa) = true := by simpa using hfp
            by_cases hu0 : fu = 0
            · have hu1 : (fu == 0) = true := by simpa using hu0
              have HU0 := Aside0.mk hu0
              clear hu0
              cases wr with
              | true =>
                have HE : Aside0 (R = (df (i : Int), true, fu, wrap64 (fa - 1), 17)) := ⟨by rw [HRR.out, changedF, if_pos HOK.out, if_neg (by decide), ← HI.out, ← HBE.out, ← HRF.out, if_pos rfl, if_neg hf0, if_pos HU0.out, if_pos rfl, if_pos hfp]⟩
                have hKd := HKd.out
                go_wp2_with fail
                rw [hKd _ _, Oper.upon_enter]
                clear hKd
                have k0 := (blk_far (p := ⟨gp, 1, none⟩) (blk_far (p := ⟨gp, 3, none⟩) BK6.out N6P.out (Value.int .i64 (wrap64 (fa - 1)))) N6P.out (Value.bool true))
                have k1 := (below_set (j := 1) (v := Value.bool true) (below_set (j := 3) (v := Value.int .i64 (wrap64 (fa - 1))) HB.out GP.out) GP.out)
                refine ((Hdo.out ((w10.setCell ⟨gp, 3, none⟩ (Value.int .i64 (wrap64 (fa - 1)))).setCell ⟨gp, 1, none⟩ (Value.bool true)) i b _ _ _ (KeepT.of_keep (KeepBut.set_ (KeepBut.set_ (KeepBut.of_below H6.out gp none) 3 (Value.int .i64 (wrap64 (fa - 1)))) 1 (Value.bool true))) hil hib.out HRF.out.symm (blk_put (cs' := #[Value.slice A7 l.length c7, Value.bool true, Value.int .i64 fu, Value.int .i64 (wrap64 (fa - 1))]) (blk_put (cs' := #[Value.slice A7 l.length c7, Value.bool false, Value.int .i64 fu, Value.int .i64 (wrap64 (fa - 1))]) BKP.out 3 (Value.int .i64 (wrap64 (fa - 1))) rfl) 1 (Value.bool true) rfl) (R1 (j := 1) (R1 (j := 3) HO.out BKP.out (by decide) (Value.int .i64 (wrap64 (fa - 1)))) (blk_put (cs' := #[Value.slice A7 l.length c7, Value.bool false, Value.int .i64 fu, Value.int .i64 (wrap64 (fa - 1))]) BKP.out 3 (Value.int .i64 (wrap64 (fa - 1))) rfl) (by decide) (Value.bool true))).mono ?_)
                rintro e w12 ⟨rfl, v', hp', ho', hb', h24⟩
                obtain ⟨A8, c8, e8⟩ := Kd.R_slice ho'
                subst e8
                have n0_ := Aside0.mk (k1.trans hb'); have n1_ := Aside0.mk (h24 g6 _ k0); have n2_ := Aside0.mk hp'; have n3_ := Aside0.mk ho'
                clear BK3 BKP BKC BK6 HB HO H6 k0 k1 hp' ho' hb' h24; clear ca0 fa0 ca1 fa1 ca2 fa2 ca3 fa3; clear cb0 fb0 cb1 fb1 cb2 fb2 cb3 fb3; clear cp0 fp0 cp1 fp1 cp2 fp2 cp3 fp3; clear cc0 fc0 cc1 fc1 cc2 fc2
                have HB := n0_; have BK6 := n1_; have BKP := n2_; have HO := n3_; clear n0_ n1_ n2_ n3_
                have cp0 : w12.cell? ⟨gp, 0, none⟩ = some (Value.slice A8 (df (i : Int)).length c8) := (blk_cell BKP.out 0).trans rfl
                have fp0 := blk_frozen BKP.out 0
                have cp1 : w12.cell? ⟨gp, 1, none⟩ = some (Value.bool true) := (blk_cell BKP.out 1).trans rfl
                have fp1 := blk_frozen BKP.out 1
                have cp2 : w12.cell? ⟨gp, 2, none⟩ = some (Value.int .i64 fu) := (blk_cell BKP.out 2).trans rfl
                have fp2 := blk_frozen BKP.out 2
                have cp3 : w12.cell? ⟨gp, 3, none⟩ = some (Value.int .i64 (wrap64 (fa - 1))) := (blk_cell BKP.out 3).trans rfl
                have fp3 := blk_frozen BKP.out 3
                have cb0 : w12.cell? ⟨g6, 0, none⟩ = some (Value.slice none 0 0) := (blk_cell BK6.out 0).trans rfl
                have fb0 := blk_frozen BK6.out 0
                have cb1 : w12.cell? ⟨g6, 1, none⟩ = some (Value.bool false) := (blk_cell BK6.out 1).trans rfl
                have fb1 := blk_frozen BK6.out 1
                have cb2 : w12.cell? ⟨g6, 2, none⟩ = some (Value.int .i64 0) := (blk_cell BK6.out 2).trans rfl
                have fb2 := blk_frozen BK6.out 2
                have cb3 : w12.cell? ⟨g6, 3, none⟩ = some (Value.int .i64 0) := (blk_cell BK6.out 3).trans rfl
                have fb3 := blk_frozen BK6.out 3
                go_wp2
                refine bodyPost_ret (results_ct rfl _ _ g6 27 #[Value.slice A8 (df (i : Int)).length c8, Value.bool true, Value.int .i64 fu, Value.int .i64 (wrap64 (fa - 1))] (0, 0) _ rfl (put4 BK6.out _ _ _ _) Tryz.underlying27 rfl (by kernel_rfl)) rfl ?_
                rw [HE.out]
                exact ⟨_, rfl, R4 HO.out BK6.out (by decide) _ _ _ _, below4 HB.out G6.out _ _ _ _⟩
              | false =>
                have HE : Aside0 (R = (l, true, fu, wrap64 (fa - 1), 17)) := ⟨by rw [HRR.out, changedF, if_pos HOK.out, if_neg (by decide), ← HI.out, ← HBE.out, ← HRF.out, if_pos rfl, if_neg hf0, if_pos HU0.out, if_neg (by decide), if_pos hfp]⟩
                go_wp2
                refine bodyPost_ret (results_ct rfl _ _ g6 27 #[Value.slice A7 l.length c7, Value.bool true, Value.int .i64 fu, Value.int .i64 (wrap64 (fa - 1))] (0, 0) _ rfl (put4 (blk_far (p := ⟨gp, 1, none⟩) (blk_far (p := ⟨gp, 3, none⟩) BK6.out N6P.out (Value.int .i64 (wrap64 (fa - 1)))) N6P.out (Value.bool true)) _ _ _ _) Tryz.underlying27 rfl (by kernel_rfl)) rfl ?_
                rw [HE.out]
                exact ⟨_, rfl, R4 (R1 (j := 1) (R1 (j := 3) HO.out BKP.out (by decide) (Value.int .i64 (wrap64 (fa - 1)))) (blk_put (cs' := #[Value.slice A7 l.length c7, Value.bool false, Value.int .i64 fu, Value.int .i64 (wrap64 (fa - 1))]) BKP.out 3 (Value.int .i64 (wrap64 (fa - 1))) rfl) (by decide) (Value.bool true)) (blk_far (p := ⟨gp, 1, none⟩) (blk_far (p := ⟨gp, 3, none⟩) BK6.out N6P.out (Value.int .i64 (wrap64 (fa - 1)))) N6P.out (Value.bool true)) (by decide) _ _ _ _, below4 (below_set (j := 1) (v := Value.bool true) (below_set (j := 3) (v := Value.int .i64 (wrap64 (fa - 1))) HB.out GP.out) GP.out) G6.out _ _ _ _⟩
            · have hu1 : (fu == 0) = false := by simpa using hu0
              by_cases hup : 0 < fu
              · have hud : decide (0 < fu) = true := by simpa using hup
                have HE : Aside0 (R = (df (i : Int), false, wrap64 (fu - 1), wrap64 (fa - 1), 0)) := ⟨by rw [HRR.out, changedF, if_pos HOK.out, if_neg (by decide), ← HI.out, ← HBE.out, ← HRF.out, if_pos rfl, if_neg hf0, if_neg hu0, if_pos hup, if_pos hfp]⟩
                have hKd := HKd.out
                go_wp2_with fail
                rw [hKd _ _, Oper.upon_enter]
                clear hKd
                have k0 := (blk_far (p := ⟨gp, 2, none⟩) (blk_far (p := ⟨gp, 3, none⟩) BK6.out N6P.out (Value.int .i64 (wrap64 (fa - 1)))) N6P.out (Value.int .i64 (wrap64 (fu - 1))))
                have k1 := (below_set (j := 2) (v := Value.int .i64 (wrap64 (fu - 1))) (below_set (j := 3) (v := Value.int .i64 (wrap64 (fa - 1))) HB.out GP.out) GP.out)
                refine ((Hdo.out ((w10.setCell ⟨gp, 3, none⟩ (Value.int .i64 (wrap64 (fa - 1)))).setCell ⟨gp, 2, none⟩ (Value.int .i64 (wrap64 (fu - 1)))) i b _ _ _ (KeepT.of_keep (KeepBut.set_ (KeepBut.set_ (KeepBut.of_below H6.out gp none) 3 (Value.int .i64 (wrap64 (fa - 1)))) 2 (Value.int .i64 (wrap64 (fu - 1))))) hil hib.out HRF.out.symm (blk_put (cs' := #[Value.slice A7 l.length c7, Value.bool false, Value.int .i64 (wrap64 (fu - 1)), Value.int .i64 (wrap64 (fa - 1))]) (blk_put (cs' := #[Value.slice A7 l.length c7, Value.bool false, Value.int .i64 fu, Value.int .i64 (wrap64 (fa - 1))]) BKP.out 3 (Value.int .i64 (wrap64 (fa - 1))) rfl) 2 (Value.int .i64 (wrap64 (fu - 1))) rfl) (R1 (j := 2) (R1 (j := 3) HO.out BKP.out (by decide) (Value.int .i64 (wrap64 (fa - 1)))) (blk_put (cs' := #[Value.slice A7 l.length c7, Value.bool false, Value.int .i64 fu, Value.int .i64 (wrap64 (fa - 1))]) BKP.out 3 (Value.int .i64 (wrap64 (fa - 1))) rfl) (by decide) (Value.int .i64 (wrap64 (fu - 1))))).mono ?_)
                rintro e w12 ⟨rfl, v', hp', ho', hb', h24⟩
                obtain ⟨A8, c8, e8⟩ := Kd.R_slice ho'
                subst e8
                have n0_ := Aside0.mk (k1.trans hb'); have n1_ := Aside0.mk (h24 g6 _ k0); have n2_ := Aside0.mk hp'; have n3_ := Aside0.mk ho'
                clear BK3 BKP BKC BK6 HB HO H6 k0 k1 hp' ho' hb' h24; clear ca0 fa0 ca1 fa1 ca2 fa2 ca3 fa3; clear cb0 fb0 cb1 fb1 cb2 fb2 cb3 fb3; clear cp0 fp0 cp1 fp1 cp2 fp2 cp3 fp3; clear cc0 fc0 cc1 fc1 cc2 fc2
                have HB := n0_; have BK6 := n1_; have BKP := n2_; have HO := n3_; clear n0_ n1_ n2_ n3_
                have cp0 : w12.cell? ⟨gp, 0, none⟩ = some (Value.slice A8 (df (i : Int)).length c8) := (blk_cell BKP.out 0).trans rfl
                have fp0 := blk_frozen BKP.out 0
                have cp1 : w12.cell? ⟨gp, 1, none⟩ = some (Value.bool false) := (blk_cell BKP.out 1).trans rfl
                have fp1 := blk_frozen BKP.out 1
                have cp2 : w12.cell? ⟨gp, 2, none⟩ = some (Value.int .i64 (wrap64 (fu - 1))) := (blk_cell BKP.out 2).trans rfl
                have fp2 := blk_frozen BKP.out 2
                have cp3 : w12.cell? ⟨gp, 3, none⟩ = some (Value.int .i64 (wrap64 (fa - 1))) := (blk_cell BKP.out 3).trans rfl
                have fp3 := blk_frozen BKP.out 3
                have cb0 : w12.cell? ⟨g6, 0, none⟩ = some (Value.slice none 0 0) := (blk_cell BK6.out 0).trans rfl
                have fb0 := blk_frozen BK6.out 0
                have cb1 : w12.cell? ⟨g6, 1, none⟩ = some (Value.bool false) := (blk_cell BK6.out 1).trans rfl
                have fb1 := blk_frozen BK6.out 1
                have cb2 : w12.cell? ⟨g6, 2, none⟩ = some (Value.int .i64 0) := (blk_cell BK6.out 2).trans rfl
                have fb2 := blk_frozen BK6.out 2
                have cb3 : w12.cell? ⟨g6, 3, none⟩ = some (Value.int .i64 0) := (blk_cell BK6.out 3).trans rfl
                have fb3 := blk_frozen BK6.out 3
                go_wp2
                refine bodyPost_ret (results_ct rfl _ _ g6 27 #[Value.slice A8 (df (i : Int)).length c8, Value.bool false, Value.int .i64 (wrap64 (fu - 1)), Value.int .i64 (wrap64 (fa - 1))] (0, 0) _ rfl (put4 BK6.out _ _ _ _) Tryz.underlying27 rfl (by kernel_rfl)) rfl ?_
                rw [HE.out]
                exact ⟨_, rfl, R4 HO.out BK6.out (by decide) _ _ _ _, below4 HB.out G6.out _ _ _ _⟩
              · have hud : decide (0 < fu) = false := by simpa using hup
                have HE : Aside0 (R = (df (i : Int), false, fu, wrap64 (fa - 1), 0)) := ⟨by rw [HRR.out, changedF, if_pos HOK.out, if_neg (by decide), ← HI.out, ← HBE.out, ← HRF.out, if_pos rfl, if_neg hf0, if_neg hu0, if_neg hup, if_pos hfp]⟩
                have hKd := HKd.out
                go_wp2_with fail
                rw [hKd _ _, Oper.upon_enter]
                clear hKd
                have k0 := (blk_far (p := ⟨gp, 3, none⟩) BK6.out N6P.out (Value.int .i64 (wrap64 (fa - 1))))
                have k1 := (below_set (j := 3) (v := Value.int .i64 (wrap64 (fa - 1))) HB.out GP.out)
                refine ((Hdo.out (w10.setCell ⟨gp, 3, none⟩ (Value.int .i64 (wrap64 (fa - 1)))) i b _ _ _ (KeepT.of_keep (KeepBut.set_ (KeepBut.of_below H6.out gp none) 3 (Value.int .i64 (wrap64 (fa - 1))))) hil hib.out HRF.out.symm (blk_put (cs' := #[Value.slice A7 l.length c7, Value.bool false, Value.int .i64 fu, Value.int .i64 (wrap64 (fa - 1))]) BKP.out 3 (Value.int .i64 (wrap64 (fa - 1))) rfl) (R1 (j := 3) HO.out BKP.out (by decide) (Value.int .i64 (wrap64 (fa - 1))))).mono ?_)
                rintro e w12 ⟨rfl, v', hp', ho', hb', h24⟩
                obtain ⟨A8, c8, e8⟩ := Kd.R_slice ho'
                subst e8
                have n0_ := Aside0.mk (k1.trans hb'); have n1_ := Aside0.mk (h24 g6 _ k0); have n2_ := Aside0.mk hp'; have n3_ := Aside0.mk ho'
                clear BK3 BKP BKC BK6 HB HO H6 k0 k1 hp' ho' hb' h24; clear ca0 fa0 ca1 fa1 ca2 fa2 ca3 fa3; clear cb0 fb0 cb1 fb1 cb2 fb2 cb3 fb3; clear cp0 fp0 cp1 fp1 cp2 fp2 cp3 fp3; clear cc0 fc0 cc1 fc1 cc2 fc2
                have HB := n0_; have BK6 := n1_; have BKP := n2_; have HO := n3_; clear n0_ n1_ n2_ n3_
                have cp0 : w12.cell? ⟨gp, 0, none⟩ = some (Value.slice A8 (df (i : Int)).length c8) := (blk_cell BKP.out 0).trans rfl
                have fp0 := blk_frozen BKP.out 0
                have cp1 : w12.cell? ⟨gp, 1, none⟩ = some (Value.bool false) := (blk_cell BKP.out 1).trans rfl
                have fp1 := blk_frozen BKP.out 1
                have cp2 : w12.cell? ⟨gp, 2, none⟩ = some (Value.int .i64 fu) := (blk_cell BKP.out 2).trans rfl
                have fp2 := blk_frozen BKP.out 2
                have cp3 : w12.cell? ⟨gp, 3, none⟩ = some (Value.int .i64 (wrap64 (fa - 1))) := (blk_cell BKP.out 3).trans rfl
                have fp3 := blk_frozen BKP.out 3
                have cb0 : w12.cell? ⟨g6, 0, none⟩ = some (Value.slice none 0 0) := (blk_cell BK6.out 0).trans rfl
                have fb0 := blk_frozen BK6.out 0
                have cb1 : w12.cell? ⟨g6, 1, none⟩ = some (Value.bool false) := (blk_cell BK6.out 1).trans rfl
                have fb1 := blk_frozen BK6.out 1
                have cb2 : w12.cell? ⟨g6, 2, none⟩ = some (Value.int .i64 0) := (blk_cell BK6.out 2).trans rfl
                have fb2 := blk_frozen BK6.out 2
                have cb3 : w12.cell? ⟨g6, 3, none⟩ = some (Value.int .i64 0) := (blk_cell BK6.out 3).trans rfl
                have fb3 := blk_frozen BK6.out 3
                go_wp2
                refine bodyPost_ret (results_ct rfl _ _ g6 27 #[Value.slice A8 (df (i : Int)).length c8, Value.bool false, Value.int .i64 fu, Value.int .i64 (wrap64 (fa - 1))] (0, 0) _ rfl (put4 BK6.out _ _ _ _) Tryz.underlying27 rfl (by kernel_rfl)) rfl ?_
                rw [HE.out]
                exact ⟨_, rfl, R4 HO.out BK6.out (by decide) _ _ _ _, below4 HB.out G6.out _ _ _ _⟩
          · have hfd : decide (0 < fa) = false := by simpa using hfp
            by_cases hu0 : fu = 0
            · have hu1 : (fu == 0) = true := by simpa using hu0
              have HU0 := Aside0.mk hu0
              clear hu0
              cases wr with
              | true =>
                have HE : Aside0 (R = (df (i : Int), true, fu, fa, 17)) := ⟨by rw [HRR.out, changedF, if_pos HOK.out, if_neg (by decide), ← HI.out, ← HBE.out, ← HRF.out, if_pos rfl, if_neg hf0, if_pos HU0.out, if_pos rfl, if_neg hfp]⟩
                have hKd := HKd.out
                go_wp2_with fail
                rw [hKd _ _, Oper.upon_enter]
                clear hKd
                have k0 := (blk_far (p := ⟨gp, 1, none⟩) BK6.out N6P.out (Value.bool true))
                have k1 := (below_set (j := 1) (v := Value.bool true) HB.out GP.out)
                refine ((Hdo.out (w10.setCell ⟨gp, 1, none⟩ (Value.bool true)) i b _ _ _ (KeepT.of_keep (KeepBut.set_ (KeepBut.of_below H6.out gp none) 1 (Value.bool true))) hil hib.out HRF.out.symm (blk_put (cs' := #[Value.slice A7 l.length c7, Value.bool true, Value.int .i64 fu, Value.int .i64 fa]) BKP.out 1 (Value.bool true) rfl) (R1 (j := 1) HO.out BKP.out (by decide) (Value.bool true))).mono ?_)
                rintro e w12 ⟨rfl, v', hp', ho', hb', h24⟩
                obtain ⟨A8, c8, e8⟩ := Kd.R_slice ho'
                subst e8
                have n0_ := Aside0.mk (k1.trans hb'); have n1_ := Aside0.mk (h24 g6 _ k0); have n2_ := Aside0.mk hp'; have n3_ := Aside0.mk ho'
                clear BK3 BKP BKC BK6 HB HO H6 k0 k1 hp' ho' hb' h24; clear ca0 fa0 ca1 fa1 ca2 fa2 ca3 fa3; clear cb0 fb0 cb1 fb1 cb2 fb2 cb3 fb3; clear cp0 fp0 cp1 fp1 cp2 fp2 cp3 fp3; clear cc0 fc0 cc1 fc1 cc2 fc2
                have HB := n0_; have BK6 := n1_; have BKP := n2_; have HO := n3_; clear n0_ n1_ n2_ n3_
                have cp0 : w12.cell? ⟨gp, 0, none⟩ = some (Value.slice A8 (df (i : Int)).length c8) := (blk_cell BKP.out 0).trans rfl
                have fp0 := blk_frozen BKP.out 0
                have cp1 : w12.cell? ⟨gp, 1, none⟩ = some (Value.bool true) := (blk_cell BKP.out 1).trans rfl
                have fp1 := blk_frozen BKP.out 1
                have cp2 : w12.cell? ⟨gp, 2, none⟩ = some (Value.int .i64 fu) := (blk_cell BKP.out 2).trans rfl
                have fp2 := blk_frozen BKP.out 2
                have cp3 : w12.cell? ⟨gp, 3, none⟩ = some (Value.int .i64 fa) := (blk_cell BKP.out 3).trans rfl
                have fp3 := blk_frozen BKP.out 3
                have cb0 : w12.cell? ⟨g6, 0, none⟩ = some (Value.slice none 0 0) := (blk_cell BK6.out 0).trans rfl
                have fb0 := blk_frozen BK6.out 0
                have cb1 : w12.cell? ⟨g6, 1, none⟩ = some (Value.bool false) := (blk_cell BK6.out 1).trans rfl
                have fb1 := blk_frozen BK6.out 1
                have cb2 : w12.cell? ⟨g6, 2, none⟩ = some (Value.int .i64 0) := (blk_cell BK6.out 2).trans rfl
                have fb2 := blk_frozen BK6.out 2
                have cb3 : w12.cell? ⟨g6, 3, none⟩ = some (Value.int .i64 0) := (blk_cell BK6.out 3).trans rfl
                have fb3 := blk_frozen BK6.out 3
                go_wp2
                refine bodyPost_ret (results_ct rfl _ _ g6 27 #[Value.slice A8 (df (i : Int)).length c8, Value.bool true, Value.int .i64 fu, Value.int .i64 fa] (0, 0) _ rfl (put4 BK6.out _ _ _ _) Tryz.underlying27 rfl (by kernel_rfl)) rfl ?_
                rw [HE.out]
                exact ⟨_, rfl, R4 HO.out BK6.out (by decide) _ _ _ _, below4 HB.out G6.out _ _ _ _⟩
              | false =>
                have HE : Aside0 (R = (l, true, fu, fa, 17)) := ⟨by rw [HRR.out, changedF, if_pos HOK.out, if_neg (by decide), ← HI.out, ← HBE.out, ← HRF.out, if_pos rfl, if_neg hf0, if_pos HU0.out, if_neg (by decide), if_neg hfp]⟩
                go_wp2
                refine bodyPost_ret (results_ct rfl _ _ g6 27 #[Value.slice A7 l.length c7, Value.bool true, Value.int .i64 fu, Value.int .i64 fa] (0, 0) _ rfl (put4 (blk_far (p := ⟨gp, 1, none⟩) BK6.out N6P.out (Value.bool true)) _ _ _ _) Tryz.underlying27 rfl (by kernel_rfl)) rfl ?_
                rw [HE.out]
                exact ⟨_, rfl, R4 (R1 (j := 1) HO.out BKP.out (by decide) (Value.bool true)) (blk_far (p := ⟨gp, 1, none⟩) BK6.out N6P.out (Value.bool true)) (by decide) _ _ _ _, below4 (below_set (j := 1) (v := Value.bool true) HB.out GP.out) G6.out _ _ _ _⟩
            · have hu1 : (fu == 0) = false := by simpa using hu0
              by_cases hup : 0 < fu
              · have hud : decide (0 < fu) = true := by simpa using hup
                have HE : Aside0 (R = (df (i : Int), false, wrap64 (fu - 1), fa, 0)) := ⟨by rw [HRR.out, changedF, if_pos HOK.out, if_neg (by decide), ← HI.out, ← HBE.out, ← HRF.out, if_pos rfl, if_neg hf0, if_neg hu0, if_pos hup, if_neg hfp]⟩
                have hKd := HKd.out
                go_wp2_with fail
                rw [hKd _ _, Oper.upon_enter]
                clear hKd
                have k0 := (blk_far (p := ⟨gp, 2, none⟩) BK6.out N6P.out (Value.int .i64 (wrap64 (fu - 1))))
                have k1 := (below_set (j := 2) (v := Value.int .i64 (wrap64 (fu - 1))) HB.out GP.out)
                refine ((Hdo.out (w10.setCell ⟨gp, 2, none⟩ (Value.int .i64 (wrap64 (fu - 1)))) i b _ _ _ (KeepT.of_keep (KeepBut.set_ (KeepBut.of_below H6.out gp none) 2 (Value.int .i64 (wrap64 (fu - 1))))) hil hib.out HRF.out.symm (blk_put (cs' := #[Value.slice A7 l.length c7, Value.bool false, Value.int .i64 (wrap64 (fu - 1)), Value.int .i64 fa]) BKP.out 2 (Value.int .i64 (wrap64 (fu - 1))) rfl) (R1 (j := 2) HO.out BKP.out (by decide) (Value.int .i64 (wrap64 (fu - 1))))).mono ?_)
                rintro e w12 ⟨rfl, v', hp', ho', hb', h24⟩
                obtain ⟨A8, c8, e8⟩ := Kd.R_slice ho'
                subst e8
                have n0_ := Aside0.mk (k1.trans hb'); have n1_ := Aside0.mk (h24 g6 _ k0); have n2_ := Aside0.mk hp'; have n3_ := Aside0.mk ho'
                clear BK3 BKP BKC BK6 HB HO H6 k0 k1 hp' ho' hb' h24; clear ca0 fa0 ca1 fa1 ca2 fa2 ca3 fa3; clear cb0 fb0 cb1 fb1 cb2 fb2 cb3 fb3; clear cp0 fp0 cp1 fp1 cp2 fp2 cp3 fp3; clear cc0 fc0 cc1 fc1 cc2 fc2
                have HB := n0_; have BK6 := n1_; have BKP := n2_; have HO := n3_; clear n0_ n1_ n2_ n3_
                have cp0 : w12.cell? ⟨gp, 0, none⟩ = some (Value.slice A8 (df (i : Int)).length c8) := (blk_cell BKP.out 0).trans rfl
                have fp0 := blk_frozen BKP.out 0
                have cp1 : w12.cell? ⟨gp, 1, none⟩ = some (Value.bool false) := (blk_cell BKP.out 1).trans rfl
                have fp1 := blk_frozen BKP.out 1
                have cp2 : w12.cell? ⟨gp, 2, none⟩ = some (Value.int .i64 (wrap64 (fu - 1))) := (blk_cell BKP.out 2).trans rfl
                have fp2 := blk_frozen BKP.out 2
                have cp3 : w12.cell? ⟨gp, 3, none⟩ = some (Value.int .i64 fa) := (blk_cell BKP.out 3).trans rfl
                have fp3 := blk_frozen BKP.out 3
                have cb0 : w12.cell? ⟨g6, 0, none⟩ = some (Value.slice none 0 0) := (blk_cell BK6.out 0).trans rfl
                have fb0 := blk_frozen BK6.out 0
                have cb1 : w12.cell? ⟨g6, 1, none⟩ = some (Value.bool false) := (blk_cell BK6.out 1).trans rfl
                have fb1 := blk_frozen BK6.out 1
                have cb2 : w12.cell? ⟨g6, 2, none⟩ = some (Value.int .i64 0) := (blk_cell BK6.out 2).trans rfl
                have fb2 := blk_frozen BK6.out 2
                have cb3 : w12.cell? ⟨g6, 3, none⟩ = some (Value.int .i64 0) := (blk_cell BK6.out 3).trans rfl
                have fb3 := blk_frozen BK6.out 3
                go_wp2
                refine bodyPost_ret (results_ct rfl _ _ g6 27 #[Value.slice A8 (df (i : Int)).length c8, Value.bool false, Value.int .i64 (wrap64 (fu - 1)), Value.int .i64 fa] (0, 0) _ rfl (put4 BK6.out _ _ _ _) Tryz.underlying27 rfl (by kernel_rfl)) rfl ?_
                rw [HE.out]
                exact ⟨_, rfl, R4 HO.out BK6.out (by decide) _ _ _ _, below4 HB.out G6.out _ _ _ _⟩
              · have hud : decide (0 < fu) = false := by simpa using hup
                have HE : Aside0 (R = (df (i : Int), false, fu, fa, 0)) := ⟨by rw [HRR.out, changedF, if_pos HOK.out, if_neg (by decide), ← HI.out, ← HBE.out, ← HRF.out, if_pos rfl, if_neg hf0, if_neg hu0, if_neg hup, if_neg hfp]⟩
                have hKd := HKd.out
                go_wp2_with fail
                rw [hKd _ _, Oper.upon_enter]
                clear hKd
                have k0 := BK6.out
                have k1 := HB.out
                refine ((Hdo.out w10 i b _ _ _ (KeepT.of_keep (KeepBut.of_below H6.out gp none)) hil hib.out HRF.out.symm (BKP.out) HO.out).mono ?_)
                rintro e w12 ⟨rfl, v', hp', ho', hb', h24⟩
                obtain ⟨A8, c8, e8⟩ := Kd.R_slice ho'
                subst e8
                have n0_ := Aside0.mk (k1.trans hb'); have n1_ := Aside0.mk (h24 g6 _ k0); have n2_ := Aside0.mk hp'; have n3_ := Aside0.mk ho'
                clear BK3 BKP BKC BK6 HB HO H6 k0 k1 hp' ho' hb' h24; clear ca0 fa0 ca1 fa1 ca2 fa2 ca3 fa3; clear cb0 fb0 cb1 fb1 cb2 fb2 cb3 fb3; clear cp0 fp0 cp1 fp1 cp2 fp2 cp3 fp3; clear cc0 fc0 cc1 fc1 cc2 fc2
                have HB := n0_; have BK6 := n1_; have BKP := n2_; have HO := n3_; clear n0_ n1_ n2_ n3_
                have cp0 : w12.cell? ⟨gp, 0, none⟩ = some (Value.slice A8 (df (i : Int)).length c8) := (blk_cell BKP.out 0).trans rfl
                have fp0 := blk_frozen BKP.out 0
                have cp1 : w12.cell? ⟨gp, 1, none⟩ = some (Value.bool false) := (blk_cell BKP.out 1).trans rfl
                have fp1 := blk_frozen BKP.out 1
                have cp2 : w12.cell? ⟨gp, 2, none⟩ = some (Value.int .i64 fu) := (blk_cell BKP.out 2).trans rfl
                have fp2 := blk_frozen BKP.out 2
                have cp3 : w12.cell? ⟨gp, 3, none⟩ = some (Value.int .i64 fa) := (blk_cell BKP.out 3).trans rfl
                have fp3 := blk_frozen BKP.out 3
                have cb0 : w12.cell? ⟨g6, 0, none⟩ = some (Value.slice none 0 0) := (blk_cell BK6.out 0).trans rfl
                have fb0 := blk_frozen BK6.out 0
                have cb1 : w12.cell? ⟨g6, 1, none⟩ = some (Value.bool false) := (blk_cell BK6.out 1).trans rfl
                have fb1 := blk_frozen BK6.out 1
                have cb2 : w12.cell? ⟨g6, 2, none⟩ = some (Value.int .i64 0) := (blk_cell BK6.out 2).trans rfl
                have fb2 := blk_frozen BK6.out 2
                have cb3 : w12.cell? ⟨g6, 3, none⟩ = some (Value.int .i64 0) := (blk_cell BK6.out 3).trans rfl
                have fb3 := blk_frozen BK6.out 3
                go_wp2
                refine bodyPost_ret (results_ct rfl _ _ g6 27 #[Value.slice A8 (df (i : Int)).length c8, Value.bool false, Value.int .i64 fu, Value.int .i64 fa] (0, 0) _ rfl (put4 BK6.out _ _ _ _) Tryz.underlying27 rfl (by kernel_rfl)) rfl ?_
                rw [HE.out]
                exact ⟨_, rfl, R4 HO.out BK6.out (by decide) _ _ _ _, below4 HB.out G6.out _ _ _ _⟩
      · have HE : Aside0 (R = (l, false, fu, fa, r)) := ⟨by
          rw [HRR.out, changedF, if_pos HOK.out, if_neg (by decide), ← HI.out, ← HBE.out, ← HRF.out, if_neg hr0]⟩
        have hr1 : (r != 0) = true := by simpa using hr0
        clear hr0
        go_wp2
        refine bodyPost_ret (results_ct rfl _ _ g6 27 #[Value.slice A7 l.length c7, Value.bool false, Value.int .i64 fu, Value.int .i64 fa] (0, 0) _ rfl (put4 BK6.out _ _ _ _) Tryz.underlying27 rfl (by kernel_rfl)) rfl ?_
        rw [HE.out]
        exact ⟨_, rfl, R4 HO.out BK6.out (by decide) _ _ _ _, below4 HB.out G6.out _ _ _ _⟩
  · refine ((disk_Check.calls A c l dn fu fa 6 w2 (Kd.C_below HR.out HB.out) hc (by rw [disk_Check.f, if_neg hok])).mono ?_)
    rintro e w3 ⟨rfl, hb⟩
    have n0_ := Aside0.mk (below_step HB.out hb); have n1_ := Aside0.mk (blk_below BK3.out hb); have n2_ := Aside0.mk (blk_below BK6.out hb)
    clear HB BK3 BK6 hc3_0 hc3_1 hc3_2 hc3_3; have HB := n0_; have BK3 := n1_; have BK6 := n2_; clear n0_ n1_ n2_ hb
    have cb0 : w3.cell? ⟨g6, 0, none⟩ = some (Value.slice none 0 0) := (blk_cell BK6.out 0).trans rfl
    have fb0 := blk_frozen BK6.out 0
    have cb1 : w3.cell? ⟨g6, 1, none⟩ = some (Value.bool false) := (blk_cell BK6.out 1).trans rfl
    have fb1 := blk_frozen BK6.out 1
    have cb2 : w3.cell? ⟨g6, 2, none⟩ = some (Value.int .i64 0) := (blk_cell BK6.out 2).trans rfl
    have fb2 := blk_frozen BK6.out 2
    have cb3 : w3.cell? ⟨g6, 3, none⟩ = some (Value.int .i64 0) := (blk_cell BK6.out 3).trans rfl
    have fb3 := blk_frozen BK6.out 3
    have HE : Aside0 (R = ([], false, 0, 0, 6)) := ⟨by rw [HRR.out, changedF, if_neg hok]⟩
    clear hok
    go_wp2_with fail
    refine bodyPost_ret (results_ct rfl _ _ g6 27 #[.slice none 0 0, .bool false, .int .i64 0, .int .i64 0] (0, 0) _ rfl (put4 BK6.out _ _ _ _) Tryz.underlying27 rfl (by kernel_rfl)) rfl ?_
    rw [HE.out]
    exact ⟨_, rfl, Kd.R_nil _ _ _ _ _, below4 HB.out G6.out _ _ _ _⟩
end Go.Proofs.YtanonhipicoigaaGreatDoor.U
namespace Go.Proofs.YtanonhipicoigaaGreatDoor.U
open Go.RowKit Go.Proofs.YtanonhipicoigaaGreatDoorW.PrintWords Go.Proofs.YtanonhipicoigaaGreatDoorW.PrintLast Go.Proofs.YtanonhipicoigaaGreatDoorW.PrintMore
set_option linter.unusedVariables false
set_option linter.unusedSimpArgs false
/-! ### Files as cells -/
def cells3 (x : S67) : List Value := [.string x.f0, .string x.f1, .int .i64 x.f2]
def cellsOf (l : List S67) : List Value := l.flatMap cells3
theorem cellsOf_cons (x : S67) (l : List S67) : cellsOf (x :: l) = .string x.f0 :: .string x.f1 :: .int .i64 x.f2 :: cellsOf l := rfl
theorem cellsOf_append (a b : List S67) : cellsOf (a ++ b) = cellsOf a ++ cellsOf b := by simp [cellsOf]
theorem cellsOf_length : ∀ l : List S67, (cellsOf l).length = l.length * 3
  | [] => rfl
  | x :: l => by rw [cellsOf_cons]; simp only [List.length_cons]; rw [cellsOf_length l]; omega
theorem cellsOf_take : ∀ (l : List S67) (i : Nat), cellsOf (l.take i) = (cellsOf l).take (i * 3)
  | [], i => by simp [cellsOf]
  | x :: l, 0 => by simp [cellsOf]
  | x :: l, i + 1 => by
    rw [List.take_succ_cons, cellsOf_cons, cellsOf_cons, cellsOf_take l i, show (i + 1) * 3 = i * 3 + 1 + 1 + 1 by omega]
    simp only [List.take_succ_cons]
theorem cellsOf_drop : ∀ (l : List S67) (i : Nat), cellsOf (l.drop i) = (cellsOf l).drop (i * 3)
  | [], i => by simp [cellsOf]
  | x :: l, 0 => by simp
  | x :: l, i + 1 => by
    rw [List.drop_succ_cons, cellsOf_cons, cellsOf_drop l i, show (i + 1) * 3 = i * 3 + 1 + 1 + 1 by omega]
    simp only [List.drop_succ_cons]
theorem cellsOf_set1 : ∀ (l : List S67) (i : Nat) (x : S67) (u : ByteArray), l[i]? = some x → (cellsOf l).set (i * 3 + 1) (.string u) = cellsOf (l.set i ⟨x.f0, u, x.f2⟩)
  | [], i, x, u, h => by simp at h
  | y :: l, 0, x, u, h => by
    obtain rfl : y = x := by simpa using h
    simp [cellsOf_cons]
  | y :: l, i + 1, x, u, h => by
    show _ = cellsOf (y :: l.set i _)
    rw [cellsOf_cons, cellsOf_cons, ← cellsOf_set1 l i x u (by simpa using h), show (i + 1) * 3 + 1 = i * 3 + 1 + 1 + 1 + 1 by omega]
    simp only [List.set_cons_succ]
theorem cellsOf_set2 : ∀ (l : List S67) (i : Nat) (x : S67) (u : Int), l[i]? = some x → (cellsOf l).set (i * 3 + 2) (.int .i64 u) = cellsOf (l.set i ⟨x.f0, x.f1, u⟩)
  | [], i, x, u, h => by simp at h
  | y :: l, 0, x, u, h => by
    obtain rfl : y = x := by simpa using h
    simp [cellsOf_cons]
  | y :: l, i + 1, x, u, h => by
    show _ = cellsOf (y :: l.set i _)
    rw [cellsOf_cons, cellsOf_cons, ← cellsOf_set2 l i x u (by simpa using h), show (i + 1) * 3 + 2 = i * 3 + 2 + 1 + 1 + 1 by omega]
    simp only [List.set_cons_succ]
theorem cellsOf_get : ∀ (l : List S67) (i : Nat) (x : S67), l[i]? = some x → (cellsOf l)[i * 3]? = some (.string x.f0) ∧ (cellsOf l)[i * 3 + 1]? = some (.string x.f1) ∧ (cellsOf l)[i * 3 + 2]? = some (.int .i64 x.f2)
  | [], i, x, h => by simp at h
  | y :: l, 0, x, h => by
    obtain rfl : y = x := by simpa using h
    simp [cellsOf_cons]
  | y :: l, i + 1, x, h => by
    have ih := cellsOf_get l i x (by simpa using h)
    rw [cellsOf_cons, show (i + 1) * 3 = i * 3 + 1 + 1 + 1 by omega]
    simp only [List.getElem?_cons_succ]
    exact ih
theorem cellsOf_one (l : List S67) : ∀ u ∈ cellsOf l, u.oneCell' = true := by
  intro u hu
  simp only [cellsOf, List.mem_flatMap, cells3] at hu
  obtain ⟨x, _, hx⟩ := hu
  simp only [List.mem_cons, List.not_mem_nil, or_false] at hx
  rcases hx with rfl | rfl | rfl <;> rfl
theorem add_plain' (g k j : Nat) : (⟨g, k, none⟩ : Addr).add j = ⟨g, k + j, none⟩ := by unfold Addr.add; split <;> simp_all
theorem reps_cells (w : World) (base : Nat) (ok : Nat → Prop) : ∀ l : List S67, Reps (k67.M w base ok) 3 l (cellsOf l) := by
  intro l
  refine ⟨cellsOf_length l, fun j p hj => ?_⟩
  rw [← cellsOf_drop, show ((3 : Nat)) = 1 * 3 from rfl, ← cellsOf_take]
  have hlt : j < l.length := (List.getElem?_eq_some_iff.1 hj).1
  have e : (l.drop j).take 1 = [p] := by
    rw [List.drop_eq_getElem_cons hlt]
    have := (List.getElem?_eq_some_iff.1 hj).2
    simp [this]
  rw [e]
  exact k67_mkM w base ok p
theorem cells_reps {w : World} {base : Nat} {ok : Nat → Prop} : ∀ {l : List S67} {cs : List Value}, Reps (k67.M w base ok) 3 l cs → cs = cellsOf l := by
  intro l
  induction l with
  | nil =>
    intro cs h
    have := h.1
    simp at this
    rw [this]; rfl
  | cons x l ih =>
    intro cs h
    have h0 := k67_openM (h.2 0 x rfl)
    simp only [Nat.zero_mul, List.drop_zero] at h0
    have hl := h.1
    simp only [List.length_cons] at hl
    have h1 : Reps (k67.M w base ok) 3 l (cs.drop 3) := by
      refine ⟨by rw [List.length_drop]; omega, fun j p hj => ?_⟩
      have := h.2 (j + 1) p (by simpa using hj)
      rw [List.drop_drop, show 3 + j * 3 = (j + 1) * 3 by omega]
      exact this
    rw [cellsOf_cons, ← ih h1]
    have e : cs = cs.take 3 ++ cs.drop 3 := (List.take_append_drop 3 cs).symm
    rw [h0] at e
    exact e
theorem own_of_R {w : World} {base : Nat} {ok : Nat → Prop} {v : Value} {l : List S67} (h : Kd.R k67 67 w base ok v l) : w.ownsRow base 67 3 v l.length (cellsOf l) := by
  obtain ⟨_, inner, ho, hr⟩ := h
  rw [← cells_reps hr]
  exact ho
theorem R_of_own {w : World} {base : Nat} {v : Value} {l : List S67} (h : w.ownsRow base 67 3 v l.length (cellsOf l)) : Kd.R k67 67 w base (fun _ => True) v l :=
  ⟨fun _ _ => trivial, cellsOf l, h, reps_cells _ _ _ l⟩
/-- A file's own row: a block of cells. -/
theorem R_block {w : World} {base : Nat} {ok : Nat → Prop} {A : Option Addr} {n c : Nat} {l : List S67} (h : Kd.R k67 67 w base ok (.slice A n c) l) (hne : 0 < l.length) :
    ∃ g cur, A = some ⟨g, 0, none⟩ ∧ n = l.length ∧ base ≤ g ∧ w.heap[g]? = some (.cells cur 67 (0, 0)) ∧ l.length ≤ c ∧ c ≤ maxLen ∧ cur.size = c * 3 ∧ cur.toList.take (l.length * 3) = cellsOf l := by
  obtain ⟨_, h2 | ⟨g, cap, cur, he, hb, hh, h3, h4, h5, h6⟩⟩ := own_of_R h
  · omega
  · injection he with e1 e2 e3
    subst e1 e2 e3
    exact ⟨g, cur, rfl, rfl, hb, hh, h3, h4, h5, h6⟩
theorem R_cell {w : World} {g : Nat} {cur : Array Value} {l : List S67} {j : Nat} {u : Value} (hh : w.heap[g]? = some (.cells cur 67 (0, 0))) (h6 : cur.toList.take (l.length * 3) = cellsOf l) (hj : (cellsOf l)[j]? = some u) :
    w.cell? ⟨g, j, none⟩ = some u := by
  have hlt : j < l.length * 3 := by
    have := (List.getElem?_eq_some_iff.1 hj).1
    rwa [cellsOf_length] at this
  rw [blk_cell hh]
  rw [← h6, List.getElem?_take_of_lt hlt] at hj
  rw [← hj]
  simp
/-- One cell of the row is stored anew. -/
theorem R_put {w : World} {base g c j : Nat} {l l' : List S67} {u : Value} (h : Kd.R k67 67 w base (fun _ => True) (.slice (some ⟨g, 0, none⟩) l.length c) l) (hl : l'.length = l.length) (he : (cellsOf l).set j u = cellsOf l') (hj : j < l.length * 3) :
    Kd.R k67 67 (w.setCell ⟨g, j, none⟩ u) base (fun _ => True) (.slice (some ⟨g, 0, none⟩) l'.length c) l' := by
  obtain ⟨g', cur, hg, _, hb, hh, h3, h4, h5, h6⟩ := R_block h (by omega)
  injection hg with hg
  injection hg with hg
  subst hg
  refine R_of_own ⟨by rw [cellsOf_length], .inr ⟨g, c, cur.setIfInBounds j u, rfl, hb, blk_set hh j u, by omega, h4, by simpa using h5, ?_⟩⟩
  rw [← he, ← h6, hl]
  simp [List.take_set]
theorem there_any (i : Int) (b : Bool) (w : World) : Calls Tryz.prog 160 #[.int .i64 i, .bool b] w fun e w' => e = .returned (.int .i64 (if b = true then 0 else 7)) ∧ w = w' := by
  cases b
  · go_enter Tryz.func160, Tryz.ntmps160
    go_wp2
    go_ret
    exact ⟨rfl, rfl⟩
  · go_enter Tryz.func160, Tryz.ntmps160
    go_wp2
    go_ret
    exact ⟨rfl, rfl⟩
theorem enters49 : Enters 160 := fun args w => enters_ Tryz.func160 (by kernel_rfl) (by kernel_rfl) args w
end Go.Proofs.YtanonhipicoigaaGreatDoor.U
namespace Go.Proofs.YtanonhipicoigaaGreatDoor.U
open Go.RowKit Go.Proofs.YtanonhipicoigaaGreatDoorW.PrintWords Go.Proofs.YtanonhipicoigaaGreatDoorW.PrintLast Go.Proofs.YtanonhipicoigaaGreatDoorW.PrintMore
set_option linter.unusedVariables false
set_option linter.unusedSimpArgs false
/-- The plate that is being changed, and the box of a closure that leads to it. -/
def Plate (w : World) (base gp : Nat) (v : Value) (l : List S67) (dn : Bool) (fu fa : Int) : Prop :=
  w.heap[gp]? = some (.cells #[v, .bool dn, .int .i64 fu, .int .i64 fa] 211 (0, 0)) ∧ Kd.R k67 67 w base (fun _ => True) v l
/-- What a change leaves. -/
def Done (w : World) (base gp : Nat) (dn : Bool) (fu fa : Int) (l' : List S67) (e : Ending) (w4 : World) : Prop :=
  e = .returned (.tuple #[]) ∧ ∃ v' : Value, w4.heap[gp]? = some (.cells #[v', .bool dn, .int .i64 fu, .int .i64 fa] 211 (0, 0)) ∧ Kd.R k67 67 w4 base (fun _ => True) v' l' ∧ Below base w w4 ∧
    ∀ (k : Nat) (cs : Array Value), w.heap[k]? = some (.cells cs 27 (0, 0)) → w4.heap[k]? = some (.cells cs 27 (0, 0))
theorem other_block {w : World} {g g' t t' : Nat} {cs cs' : Array Value} (h : w.heap[g]? = some (.cells cs t (0, 0))) (h' : w.heap[g']? = some (.cells cs' t' (0, 0))) (ht : t ≠ t') : g ≠ g' := blk_ne h h' ht
theorem get_of_lt {l : List S67} {i : Nat} (h : i < l.length) : ∃ x, l[i]? = some x := ⟨l[i], List.getElem?_eq_getElem h⟩
theorem new1 (w : World) (o o' : Obj) : ((w.alloc o).alloc o').heap[w.heap.size]? = some o := blk_alloc (blk_new w o) o'
theorem new2 (w : World) (o o' : Obj) : ((w.alloc o).alloc o').heap[w.heap.size + 1]? = some o' := by
  have h := blk_new (w.alloc o) o'
  have e : (w.alloc o).heap.size = w.heap.size + 1 := by
    show (w.heap.push _).size = _
    simp
  rwa [e] at h
theorem new31 (w : World) (o o' o'' : Obj) : (((w.alloc o).alloc o').alloc o'').heap[w.heap.size]? = some o := blk_alloc (new1 w o o') o''
theorem new32 (w : World) (o o' o'' : Obj) : (((w.alloc o).alloc o').alloc o'').heap[w.heap.size + 1]? = some o' := blk_alloc (new2 w o o') o''
theorem new33 (w : World) (o o' o'' : Obj) : (((w.alloc o).alloc o').alloc o'').heap[w.heap.size + 2]? = some o'' := by
  have h := new2 (w.alloc o) o' o''
  have e : (w.alloc o).heap.size = w.heap.size + 1 := by
    show (w.heap.push _).size = _
    simp
  rwa [e] at h
theorem ne63 {w : World} {g t : Nat} {cs cs' : Array Value} (h : w.heap[g]? = some (.cells cs 179 (0, 0))) (ht : t ≠ 179) : ¬ w.heap[g]? = some (.cells cs' t (0, 0)) := by
  rw [h]
  intro e
  injection e with e
  injection e with _ e
  exact ht e.symm
theorem enters57 : Enters 177 := fun args w => enters_ Tryz.func177 (by kernel_rfl) (by kernel_rfl) args w
/-! ### sync -/
set_option maxHeartbeats 4000000 in
set_option maxRecDepth 100000 in
theorem sync_do (gp b1 : Nat) (w : World) (base : Nat) (l : List S67) (A : Option Addr) (c : Nat) (dn : Bool) (fu fa : Int) (i : Nat) (x : S67) (hx : l[i]? = some x) (hb1 : w.heap[b1]? = some (.cells #[.pointer (some ⟨gp, 0, none⟩)] 176 (0, 0)))
    (hp : Plate w base gp (.slice A l.length c) l dn fu fa) :
    Calls Tryz.prog 177 #[.int .i64 (i : Int), .pointer (some ⟨b1, 0, none⟩)] w (Done w base gp dn fu fa (l.set i ⟨x.f0, x.f1, (x.f1.size : Int)⟩)) := by
  obtain ⟨hp, ho⟩ := hp
  have hlt : i < l.length := (List.getElem?_eq_some_iff.1 hx).1
  obtain ⟨g, cur, rfl, _, hg, hh, h3, h4, h5, h6⟩ := R_block ho (by omega)
  obtain ⟨e0, e1, e2⟩ := cellsOf_get l i x hx
  have s1 : w.cell? ⟨b1, 0, none⟩ = some (.pointer (some ⟨gp, 0, none⟩)) := (blk_cell hb1 0).trans rfl
  have s2 : w.cell? ⟨gp, 0, none⟩ = some (.slice (some ⟨g, 0, none⟩) l.length c) := (blk_cell hp 0).trans rfl
  have s3 : w.cell? ⟨g, i * 3 + 1, none⟩ = some (.string x.f1) := R_cell hh h6 e1
  have s4 : w.cell? ⟨g, i * 3 + 2, none⟩ = some (.int .i64 x.f2) := R_cell hh h6 e2
  have s5 := blk_frozen hh (i * 3 + 2)
  have ngp : g ≠ gp := other_block hh hp (by decide)
  have HX := Aside0.mk hx
  have HO := Aside0.mk ho
  have HP := Aside0.mk hp
  have HH := Aside0.mk hh
  have NGP := Aside0.mk ngp
  have HG := Aside0.mk hg
  have hi0 : (0 : Int) ≤ (i : Int) := by omega
  have hi1 : (i : Int) < (l.length : Int) := by omega
  clear hx ho hp hh ngp h3 h4 h5 h6 e0 e1 e2 hb1 hg
  go_enter Tryz.func177, Tryz.ntmps177
  go_wp2
  refine start_ (n := 19) (S := fun w' => w'.cell? ⟨b1, 0, none⟩ = some (.pointer (some ⟨gp, 0, none⟩)) ∧ w'.cell? ⟨gp, 0, none⟩ = some (.slice (some ⟨g, 0, none⟩) l.length c) ∧ w'.cell? ⟨g, i * 3 + 1, none⟩ = some (.string x.f1)) (ds := [18]) #[false, false, false, false, false, false, false, false, false, false, false, false, false, false, false, false, false, false, false] (by kernel_rfl) rfl rfl ⟨s1, s2, s3⟩ (fun hHeld => ?_)
  refine pure_ (i := 5) (N := some 8) (v := ?_) (a' := ?_) #[false, false, false, false, false, true, false, false, false, false, false, false, false, false, false, false, false, false, false] rfl rfl (by kernel_rfl) (fun _ _ _ h => h) (Or.inl ⟨by rfl, ?_⟩) ?_ ?_
  rotate_left
  · intro w'
    go_simp
    with_reducible rfl
  rotate_left
  · simp only [Act.put, List.setIfInBounds_toArray, List.set_cons_zero, List.set_cons_succ, i64_w, i32_w]
    rfl
  refine pure_ (i := 11) (N := some 14) (v := ?_) (a' := ?_) #[false, false, false, false, false, true, false, false, false, false, false, true, false, false, false, false, false, false, false] rfl rfl (by kernel_rfl) (fun _ _ _ h => h) (Or.inl ⟨by rfl, ?_⟩) ?_ ?_
  rotate_left
  · intro w'
    go_simp
    with_reducible rfl
  rotate_left
  · simp only [Act.put, List.setIfInBounds_toArray, List.set_cons_zero, List.set_cons_succ, i64_w, i32_w]
    rfl
  refine take_ (i := 0) (N := some 3) (v := ?_) (a' := ?_) #[true, false, false, false, false, true, false, false, false, false, false, true, false, false, false, false, false, false, false] rfl rfl (by kernel_rfl) (fun _ _ _ h => h) (Or.inl ⟨by rfl, ?_⟩) hHeld ?_ ?_
  rotate_left
  · rintro w' ⟨s0, s1, s2⟩
    go_simp
    with_reducible rfl
  rotate_left
  · simp only [Act.put, List.setIfInBounds_toArray, List.set_cons_zero, List.set_cons_succ, i64_w, i32_w]
    rfl
  refine pure_ (i := 1) (N := some 4) (v := ?_) (a' := ?_) #[true, true, false, false, false, true, false, false, false, false, false, true, false, false, false, false, false, false, false] rfl rfl (by kernel_rfl) (fun _ _ _ h => h) (Or.inl ⟨by rfl, ?_⟩) ?_ ?_
  rotate_left
  · intro w'
    go_simp
    with_reducible rfl
  rotate_left
  · simp only [Act.put, List.setIfInBounds_toArray, List.set_cons_zero, List.set_cons_succ, i64_w, i32_w]
    rfl
  refine pure_ (i := 2) (N := some 5) (v := ?_) (a' := ?_) #[true, true, true, false, false, true, false, false, false, false, false, true, false, false, false, false, false, false, false] rfl rfl (by kernel_rfl) (fun _ _ _ h => h) (Or.inl ⟨by rfl, ?_⟩) ?_ ?_
  rotate_left
  · intro w'
    go_simp
    with_reducible rfl
  rotate_left
  · simp only [Act.put, List.setIfInBounds_toArray, List.set_cons_zero, List.set_cons_succ, i64_w, i32_w]
    rfl
  refine pure_ (i := 3) (N := some 6) (v := ?_) (a' := ?_) #[true, true, true, true, false, true, false, false, false, false, false, true, false, false, false, false, false, false, false] rfl rfl (by kernel_rfl) (fun _ _ _ h => h) (Or.inl ⟨by rfl, ?_⟩) ?_ ?_
  rotate_left
  · intro w'
    go_simp
    with_reducible rfl
  rotate_left
  · simp only [Act.put, List.setIfInBounds_toArray, List.set_cons_zero, List.set_cons_succ, i64_w, i32_w]
    rfl
  refine take_ (i := 4) (N := some 7) (v := ?_) (a' := ?_) #[true, true, true, true, true, true, false, false, false, false, false, true, false, false, false, false, false, false, false] rfl rfl (by kernel_rfl) (fun _ _ _ h => h) (Or.inl ⟨by rfl, ?_⟩) hHeld ?_ ?_
  rotate_left
  · rintro w' ⟨s0, s1, s2⟩
    go_simp
    with_reducible rfl
  rotate_left
  · simp only [Act.put, List.setIfInBounds_toArray, List.set_cons_zero, List.set_cons_succ, i64_w, i32_w]
    rfl
  refine take_ (i := 6) (N := some 9) (v := ?_) (a' := ?_) #[true, true, true, true, true, true, true, false, false, false, false, true, false, false, false, false, false, false, false] rfl rfl (by kernel_rfl) (fun _ _ _ h => h) (Or.inl ⟨by rfl, ?_⟩) hHeld ?_ ?_
  rotate_left
  · rintro w' ⟨s0, s1, s2⟩
    go_simp
    with_reducible rfl
  rotate_left
  · simp only [Act.put, List.setIfInBounds_toArray, List.set_cons_zero, List.set_cons_succ, i64_w, i32_w]
    rfl
  refine pure_ (i := 7) (N := some 10) (v := ?_) (a' := ?_) #[true, true, true, true, true, true, true, true, false, false, false, true, false, false, false, false, false, false, false] rfl rfl (by kernel_rfl) (fun _ _ _ h => h) (Or.inl ⟨by rfl, ?_⟩) ?_ ?_
  rotate_left
  · intro w'
    go_simp
    with_reducible rfl
  rotate_left
  · simp only [Act.put, List.setIfInBounds_toArray, List.set_cons_zero, List.set_cons_succ, i64_w, i32_w]
    rfl
  refine pure_ (i := 8) (N := some 11) (v := ?_) (a' := ?_) #[true, true, true, true, true, true, true, true, true, false, false, true, false, false, false, false, false, false, false] rfl rfl (by kernel_rfl) (fun _ _ _ h => h) (Or.inl ⟨by rfl, ?_⟩) ?_ ?_
  rotate_left
  · intro w'
    go_simp
    with_reducible rfl
  rotate_left
  · simp only [Act.put, List.setIfInBounds_toArray, List.set_cons_zero, List.set_cons_succ, i64_w, i32_w]
    rfl
  refine pure_ (i := 9) (N := some 12) (v := ?_) (a' := ?_) #[true, true, true, true, true, true, true, true, true, true, false, true, false, false, false, false, false, false, false] rfl rfl (by kernel_rfl) (fun _ _ _ h => h) (Or.inl ⟨by rfl, ?_⟩) ?_ ?_
  rotate_left
  · intro w'
    go_simp
    with_reducible rfl
  rotate_left
  · simp only [Act.put, List.setIfInBounds_toArray, List.set_cons_zero, List.set_cons_succ, i64_w, i32_w]
    rfl
  refine take_ (i := 10) (N := some 13) (v := ?_) (a' := ?_) #[true, true, true, true, true, true, true, true, true, true, true, true, false, false, false, false, false, false, false] rfl rfl (by kernel_rfl) (fun _ _ _ h => h) (Or.inl ⟨by rfl, ?_⟩) hHeld ?_ ?_
  rotate_left
  · rintro w' ⟨s0, s1, s2⟩
    go_simp
    with_reducible rfl
  rotate_left
  · simp only [Act.put, List.setIfInBounds_toArray, List.set_cons_zero, List.set_cons_succ, i64_w, i32_w]
    rfl
  refine pure_ (i := 12) (N := some 15) (v := ?_) (a' := ?_) #[true, true, true, true, true, true, true, true, true, true, true, true, true, false, false, false, false, false, false] rfl rfl (by kernel_rfl) (fun _ _ _ h => h) (Or.inl ⟨by rfl, ?_⟩) ?_ ?_
  rotate_left
  · intro w'
    go_simp
    with_reducible rfl
  rotate_left
  · simp only [Act.put, List.setIfInBounds_toArray, List.set_cons_zero, List.set_cons_succ, i64_w, i32_w]
    rfl
  refine pure_ (i := 13) (N := some 16) (v := ?_) (a' := ?_) #[true, true, true, true, true, true, true, true, true, true, true, true, true, true, false, false, false, false, false] rfl rfl (by kernel_rfl) (fun _ _ _ h => h) (Or.inl ⟨by rfl, ?_⟩) ?_ ?_
  rotate_left
  · intro w'
    go_simp
    with_reducible rfl
  rotate_left
  · simp only [Act.put, List.setIfInBounds_toArray, List.set_cons_zero, List.set_cons_succ, i64_w, i32_w]
    rfl
  refine take_ (i := 14) (N := some 17) (v := ?_) (a' := ?_) #[true, true, true, true, true, true, true, true, true, true, true, true, true, true, true, false, false, false, false] rfl rfl (by kernel_rfl) (fun _ _ _ h => h) (Or.inl ⟨by rfl, ?_⟩) hHeld ?_ ?_
  rotate_left
  · rintro w' ⟨s0, s1, s2⟩
    go_simp
    with_reducible rfl
  rotate_left
  · simp only [Act.put, List.setIfInBounds_toArray, List.set_cons_zero, List.set_cons_succ, i64_w, i32_w]
    rfl
  refine pure_ (i := 15) (N := some 18) (v := ?_) (a' := ?_) #[true, true, true, true, true, true, true, true, true, true, true, true, true, true, true, true, false, false, false] rfl rfl (by kernel_rfl) (fun _ _ _ h => h) (Or.inl ⟨by rfl, ?_⟩) ?_ ?_
  rotate_left
  · intro w'
    go_simp
    with_reducible rfl
  rotate_left
  · simp only [Act.put, List.setIfInBounds_toArray, List.set_cons_zero, List.set_cons_succ, i64_w, i32_w]
    rfl
  refine pure_ (i := 16) (N := some 19) (v := ?_) (a' := ?_) #[true, true, true, true, true, true, true, true, true, true, true, true, true, true, true, true, true, false, false] rfl rfl (by kernel_rfl) (fun _ _ _ h => h) (Or.inl ⟨by rfl, ?_⟩) ?_ ?_
  rotate_left
  · intro w'
    go_simp
    with_reducible rfl
  rotate_left
  · simp only [Act.put, List.setIfInBounds_toArray, List.set_cons_zero, List.set_cons_succ, i64_w, i32_w]
    rfl
  refine pure_ (i := 17) (N := some 20) (v := ?_) (a' := ?_) #[true, true, true, true, true, true, true, true, true, true, true, true, true, true, true, true, true, true, false] rfl rfl (by kernel_rfl) (fun _ _ _ h => h) (Or.inl ⟨by rfl, ?_⟩) ?_ ?_
  rotate_left
  · intro w'
    go_simp
    with_reducible rfl
  rotate_left
  · simp only [Act.put, List.setIfInBounds_toArray, List.set_cons_zero, List.set_cons_succ, i64_w, i32_w]
    rfl
  refine last_ (i := 18) (N := none) #[true, true, true, true, true, true, true, true, true, true, true, true, true, true, true, true, true, true, true] rfl rfl (by kernel_rfl) (by decide) (fun K hK => ?_)
  refine skip_ (w1 := ?_) (by rfl) rfl ?_ ?_
  rotate_left
  · go_simp
    rfl
  refine hK.out _ _ ?_
  clear hK K
  refine done_ (by kernel_rfl) ?_
  go_end0
  refine ⟨rfl, .slice (some ⟨g, 0, none⟩) l.length c, blk_drew (blk_far (p := ⟨g, i * 3 + 2, none⟩) HP.out (fun e => NGP.out e.symm) _), ?_, below_drew ((Below.refl base w).setCell HG.out _), fun k cs h => blk_drew (blk_far (p := ⟨g, i * 3 + 2, none⟩) h (other_block h HH.out (by decide)) _)⟩
  have h := R_put (u := .int .i64 (x.f1.size : Int)) HO.out (l' := l.set i ⟨x.f0, x.f1, (x.f1.size : Int)⟩) (by rw [List.length_set]) (cellsOf_set2 l i x _ HX.out) (j := i * 3 + 2) (by omega)
  rw [List.length_set] at h
  exact h
set_option maxHeartbeats 4000000 in
set_option maxRecDepth 100000 in
theorem sync_of (W : World) (l : List S67) (dn : Bool) (fu fa : Int) (sd : Int → List S67) (hsd : ∀ (i : Nat) (x : S67), l[i]? = some x → sd (i : Int) = l.set i ⟨x.f0, x.f1, (x.f1.size : Int)⟩) :
    OfV W 130 #[] l dn fu fa false (fun _ b => if b = true then 0 else 7) sd := by
  intro w1 gp v hb hgp hp ho hok
  obtain ⟨A, c, rfl⟩ := Kd.R_slice ho
  have hlt : gp < w1.heap.size := blk_lt hp
  go_enter Tryz.func130, Tryz.ntmps130
  go_wp2
  refine bodyPost_ret (results_cell_row rfl _ _ (w1.heap.size + 1) 179 #[.func (.func 160) #[] #[], .func (.func 177) #[] #[.pointer (some ⟨w1.heap.size, 0, none⟩)], .bool false] (0, 0) _ rfl (new2 w1 _ _) Tryz.underlying179 rfl (by kernel_rfl)) rfl ?_
  refine ⟨_, _, rfl, below_alloc (below_alloc (Below.refl _ _) _) _, ⟨160, #[], rfl, enters49, fun w3 i b _ _ _ => calls_of_args (by simp) ((there_any i b w3).mono ?_)⟩, 177, _, rfl, enters57, fun w3 i b dn fu fa hk hil hib hrf hp3 ho3 => ?_⟩
  · rintro e w4 ⟨rfl, rfl⟩
    exact ⟨rfl, Below.refl _ _⟩
  · have hbt : b = true := by
      cases b
      · simp at hrf
      · rfl
    obtain ⟨x, hx⟩ := get_of_lt (hib hbt)
    refine calls_of_args (by simp) ((sync_do gp w1.heap.size w3 W.heap.size l A c dn fu fa i x hx (hk _ _ _ (by decide) (by decide) (fun h => by injection h with h; omega) (new1 w1 _ _)) ⟨hp3, ho3⟩).mono fun e w4 h => ?_)
    rw [hsd i x hx]
    exact h
/-! ### create -/
/-- What creating a file refuses. -/
def rfC (name : ByteArray) (n : Nat) (_ : Int) (b : Bool) : Int := if name.toList = [] ∨ 4096 < name.size then 4 else if b = true then 6 else if 64 ≤ n then 8 else 0
theorem enters55 : Enters 166 := fun args w => enters_ Tryz.func166 (by kernel_rfl) (by kernel_rfl) args w
theorem enters56 : Enters 167 := fun args w => enters_ Tryz.func167 (by kernel_rfl) (by kernel_rfl) args w
set_option maxHeartbeats 4000000 in
set_option maxRecDepth 100000 in
theorem create_refuse (w : World) (gp b1 b2 : Nat) (name : ByteArray) (A : Option Addr) (n c : Nat) (i : Int) (b : Bool) (hn : n ≤ 9223372036854775807) (hb2 : w.cell? ⟨b2, 0, none⟩ = some (.string name)) (hb1 : w.cell? ⟨b1, 0, none⟩ = some (.pointer (some ⟨gp, 0, none⟩))) (hp : w.cell? ⟨gp, 0, none⟩ = some (.slice A n c)) :
    Calls Tryz.prog 166 #[.int .i64 i, .bool b, .pointer (some ⟨b2, 0, none⟩), .pointer (some ⟨b1, 0, none⟩)] w fun e w' => e = .returned (.int .i64 (rfC name n i b)) ∧ w = w' := by
  obtain ⟨R, hR⟩ : ∃ R, R = rfC name n i b := ⟨_, rfl⟩
  rw [← hR]
  have HR := Aside0.mk hR
  clear hR
  by_cases h1 : name.toList = []
  · have HE : Aside0 (R = 4) := ⟨by rw [HR.out, rfC, if_pos (.inl h1)]⟩
    have h1b : name.toList.isEmpty = true := by simp [h1]
    clear h1
    go_enter Tryz.func166, Tryz.ntmps166
    go_wp2
    go_ret
    exact ⟨by rw [HE.out]; rfl, rfl⟩
  · have h1b : name.toList.isEmpty = false := by simp [h1]
    have h1c : (name.toList == []) = false := by simp [h1]
    by_cases h2 : 4096 < name.size
    · have HE : Aside0 (R = 4) := ⟨by rw [HR.out, rfC, if_pos (.inr h2)]⟩
      have h2b : decide ((4096 : Int) < (name.size : Int)) = true := by simp; omega
      clear h2
      go_enter Tryz.func166, Tryz.ntmps166
      go_wp2
      go_ret
      exact ⟨by rw [HE.out]; rfl, rfl⟩
    · have h3 : ¬ (name.toList = [] ∨ 4096 < name.size) := by rintro (h | h) <;> contradiction
      have h2b : decide ((4096 : Int) < (name.size : Int)) = false := by simp; omega
      clear h2
      cases b with
      | true =>
        have HE : Aside0 (R = 6) := ⟨by rw [HR.out, rfC, if_neg h3, if_pos rfl]⟩
        clear h3
        go_enter Tryz.func166, Tryz.ntmps166
        go_wp2
        go_ret
        exact ⟨by rw [HE.out]; rfl, rfl⟩
      | false =>
        by_cases h4 : 64 ≤ n
        · have HE : Aside0 (R = 8) := ⟨by rw [HR.out, rfC, if_neg h3, if_neg (by decide), if_pos h4]⟩
          have h4b : decide ((64 : Int) ≤ (n : Int)) = true := by simp; omega
          clear h3 h4
          go_enter Tryz.func166, Tryz.ntmps166
          go_wp2
          go_ret
          exact ⟨by rw [HE.out]; rfl, rfl⟩
        · have HE : Aside0 (R = 0) := ⟨by rw [HR.out, rfC, if_neg h3, if_neg (by decide), if_neg h4]⟩
          have h4b : decide ((64 : Int) ≤ (n : Int)) = false := by simp; omega
          clear h3 h4
          go_enter Tryz.func166, Tryz.ntmps166
          go_wp2
          go_ret
          exact ⟨by rw [HE.out]; rfl, rfl⟩
theorem info_parts43 : ∃ i0, Tryz.prog.info? 67 = some i0 ∧ i0.zero = some (.agg #[(.string ⟨#[]⟩), (.string ⟨#[]⟩), (.int .i64 0)]) ∧ i0.size = 3 ∧ i0.bytes = 40 := by
  obtain ⟨i0, hi, hzz⟩ := Option.map_eq_some_iff.1 info67
  simp only [Prod.mk.injEq] at hzz
  exact ⟨i0, hi, hzz.1, hzz.2.1, hzz.2.2⟩
theorem insert_cells (l : List S67) (i : Nat) (name : ByteArray) : cellsOf (l.take i ++ [(⟨name, ⟨#[]⟩, 0⟩ : S67)]) = (cellsOf l).take (i * 3) ++ [.string name, .string ⟨#[]⟩, .int .i64 0] := by
  rw [cellsOf_append, cellsOf_take]
  rfl
/-- Files that lie behind a place of a row. -/
theorem reads_behind {w : World} {g i : Nat} {cur : Array Value} {l : List S67} (hh : w.heap[g]? = some (.cells cur 67 (0, 0))) (h6 : cur.toList.take (l.length * 3) = cellsOf l) (hl : l.length ≤ 9223372036854775807) (A' : Option Addr) (hA : i < l.length → A' = some ⟨g, i * 3, none⟩) :
    ReadsRow (fun (x : S67) cs => cs = cells3 x) 3 w A' (l.length - i) (l.drop i) := by
  refine ⟨by rw [List.length_drop], by omega, fun h0 => ⟨⟨g, i * 3, none⟩, hA (by omega), fun j p hj => ?_⟩⟩
  rw [List.getElem?_drop] at hj
  obtain ⟨e0, e1, e2⟩ := cellsOf_get l (i + j) p hj
  refine ⟨cells3 p, rfl, rfl, fun k u hk => ?_⟩
  rw [add_plain', show i * 3 + (j * 3 + k) = (i + j) * 3 + k by omega]
  match k, hk with
  | 0, hk => exact R_cell hh h6 (by rw [Nat.add_zero, e0]; simpa [cells3] using hk)
  | 1, hk => exact R_cell hh h6 (by rw [e1]; simpa [cells3] using hk)
  | 2, hk => exact R_cell hh h6 (by rw [e2]; simpa [cells3] using hk)
  | k + 3, hk => simp [cells3] at hk
theorem take_get {xs : List Value} {n j : Nat} {u : Value} (h : (xs.take n)[j]? = some u) : xs[j]? = some u := by
  rw [List.getElem?_take] at h
  split at h
  · exact h
  · cases h
theorem below_alloc' {B : Nat} {w W : World} (h : Below B w W) (hB : B ≤ W.heap.size) {o : Obj} : Below B w (W.alloc o) := h.alloc hB o
theorem below_grown1 {B : Nat} {w W W2 : World} (h : Below B w W) (hg : W.grownBy W2 none) (hB : B ≤ W.heap.size) : Below B w W2 :=
  ⟨hg.os.trans h.os, hg.tape.trans h.tape, hg.output.trans h.output, Nat.le_trans h.size hg.size, fun k hk => (hg.block k (by omega) (by simp)).trans (h.block k hk)⟩
theorem keep2 {w w2 : World} {o : Obj} {k t : Nat} {cs : Array Value} (h : w.heap[k]? = some (.cells cs t (0, 0))) (hg : (w.alloc o).drew.grownBy w2 none) : w2.heap[k]? = some (.cells cs t (0, 0)) :=
  blk_grown (blk_drew (blk_alloc h o)) hg (by simp)
theorem keep3 {w w2 w3 : World} {o : Obj} {k t base : Nat} {cs : Array Value} {v2 : Value} {l2 : List S67} (h : w.heap[k]? = some (.cells cs t (0, 0))) (hg : (w.alloc o).drew.grownBy w2 none) (hR : Kd.R k67 67 w2 base (fun _ => True) v2 l2) (hg3 : w2.grownBy w3 v2.ownBlock) (ht : 67 ≠ t) : w3.heap[k]? = some (.cells cs t (0, 0)) :=
  blk_grown (keep2 h hg) hg3 (Kd.R_ne hR (keep2 h hg) ht)
set_option maxHeartbeats 8000000 in
set_option maxRecDepth 100000 in
theorem create_do (gp b1 b2 : Nat) (w : World) (base : Nat) (l : List S67) (name : ByteArray) (A : Option Addr) (c : Nat) (dn : Bool) (fu fa : Int) (i : Nat) (hil : i ≤ l.length) (hn : l.length ≤ 64) (hb1 : w.heap[b1]? = some (.cells #[.pointer (some ⟨gp, 0, none⟩)] 176 (0, 0)))
    (hb2 : w.heap[b2]? = some (.cells #[.string name] 9 (0, 0))) (hp : Plate w base gp (.slice A l.length c) l dn fu fa) (hbase : base ≤ w.heap.size) (hgpb : base ≤ gp) :
    Calls Tryz.prog 167 #[.int .i64 (i : Int), .pointer (some ⟨b1, 0, none⟩), .pointer (some ⟨b2, 0, none⟩)] w (Done w base gp dn fu fa (l.take i ++ [(⟨name, ⟨#[]⟩, 0⟩ : S67)] ++ l.drop i)) := by
  obtain ⟨hp, ho⟩ := hp
  obtain ⟨l3, hl3⟩ : ∃ l3, l3 = l.take i ++ [(⟨name, ⟨#[]⟩, 0⟩ : S67)] ++ l.drop i := ⟨_, rfl⟩
  rw [← hl3]
  have HL3 := Aside0.mk hl3
  clear hl3
  obtain ⟨i0, hi0, hz0, hz1, hz2⟩ := info_parts43
  have HI0 := Aside0.mk hi0
  have HZ0 := Aside0.mk hz0
  have HZ1 := Aside0.mk hz1
  have HZ2 := Aside0.mk hz2
  clear hi0 hz0 hz1 hz2
  have hcl : l.length ≤ c := by
    obtain ⟨A', c', he, hl, _⟩ := Kd.R_reads ho
    injection he with _ _ e3
    omega
  have s1 : w.cell? ⟨b1, 0, none⟩ = some (.pointer (some ⟨gp, 0, none⟩)) := (blk_cell hb1 0).trans rfl
  have s2 : w.cell? ⟨gp, 0, none⟩ = some (.slice A l.length c) := (blk_cell hp 0).trans rfl
  have s3 : w.cell? ⟨b2, 0, none⟩ = some (.string name) := (blk_cell hb2 0).trans rfl
  have HO := Aside0.mk ho
  have HP := Aside0.mk hp
  have HB1 := Aside0.mk hb1
  have HB2 := Aside0.mk hb2
  have q0 : (0 : Int) ≤ (i : Int) := by omega
  have q1 : (i : Int) ≤ (l.length : Int) := by omega
  have q2 : i ≤ c := by omega
  clear ho hp hb1 hb2
  obtain ⟨_, hA | ⟨g, cap, cur, he, hbg, hh, h3, h4, h5, h6⟩⟩ := own_of_R HO.out
  · obtain ⟨rfl, hl0⟩ : A = none ∧ c = 0 := by
      obtain ⟨h, _⟩ := hA
      injection h with e1 e2 e3
      exact ⟨e1, e3⟩
    have hc0 : c ≤ 0 := by omega
    have hcm : c ≤ 9223372036854775807 := by omega
    clear hl0 hA
    go_enter Tryz.func167, Tryz.ntmps167
    go_wp2
    refine start_ (n := 19) (S := fun w' => w'.cell? ⟨b1, 0, none⟩ = some (.pointer (some ⟨gp, 0, none⟩)) ∧ w'.cell? ⟨b2, 0, none⟩ = some (.string name) ∧ w'.cell? ⟨gp, 0, none⟩ = some (.slice none l.length c)) (ds := [18]) #[false, false, false, false, false, false, false, false, false, false, false, false, false, false, false, false, false, false, false] (by kernel_rfl) rfl rfl ⟨s1, s3, s2⟩ (fun hHeld => ?_)
    refine pure_ (i := 6) (N := some 18) (v := ?_) (a' := ?_) #[false, false, false, false, false, false, true, false, false, false, false, false, false, false, false, false, false, false, false] rfl rfl (by kernel_rfl) (fun _ _ _ h => h) (Or.inl ⟨by rfl, ?_⟩) ?_ ?_
    rotate_left
    · intro w'
      go_simp
      with_reducible rfl
    rotate_left
    · simp only [Act.put, List.setIfInBounds_toArray, List.set_cons_zero, List.set_cons_succ, i64_w, i32_w]
      rfl
    refine pure_ (i := 7) (N := some 19) (v := ?_) (a' := ?_) #[false, false, false, false, false, false, true, true, false, false, false, false, false, false, false, false, false, false, false] rfl rfl (by kernel_rfl) (fun _ _ _ h => h) (Or.inl ⟨by rfl, ?_⟩) ?_ ?_
    rotate_left
    · intro w'
      go_simp
      with_reducible rfl
    rotate_left
    · simp only [Act.put, List.setIfInBounds_toArray, List.set_cons_zero, List.set_cons_succ, i64_w, i32_w]
      rfl
    refine pure_ (i := 13) (N := some 25) (v := ?_) (a' := ?_) #[false, false, false, false, false, false, true, true, false, false, false, false, false, true, false, false, false, false, false] rfl rfl (by kernel_rfl) (fun _ _ _ h => h) (Or.inl ⟨by rfl, ?_⟩) ?_ ?_
    rotate_left
    · intro w'
      go_simp
      with_reducible rfl
    rotate_left
    · simp only [Act.put, List.setIfInBounds_toArray, List.set_cons_zero, List.set_cons_succ, i64_w, i32_w]
      rfl
    refine take_ (i := 0) (N := some 12) (v := ?_) (a' := ?_) #[true, false, false, false, false, false, true, true, false, false, false, false, false, true, false, false, false, false, false] rfl rfl (by kernel_rfl) (fun _ _ _ h => h) (Or.inl ⟨by rfl, ?_⟩) hHeld ?_ ?_
    rotate_left
    · rintro w' ⟨s0, s1, s2⟩
      go_simp
      with_reducible rfl
    rotate_left
    · simp only [Act.put, List.setIfInBounds_toArray, List.set_cons_zero, List.set_cons_succ, i64_w, i32_w]
      rfl
    refine take_ (i := 1) (N := some 13) (v := ?_) (a' := ?_) #[true, true, false, false, false, false, true, true, false, false, false, false, false, true, false, false, false, false, false] rfl rfl (by kernel_rfl) (fun _ _ _ h => h) (Or.inl ⟨by rfl, ?_⟩) hHeld ?_ ?_
    rotate_left
    · rintro w' ⟨s0, s1, s2⟩
      go_simp
      with_reducible rfl
    rotate_left
    · simp only [Act.put, List.setIfInBounds_toArray, List.set_cons_zero, List.set_cons_succ, i64_w, i32_w]
      rfl
    refine pure_ (i := 2) (N := some 14) (v := ?_) (a' := ?_) #[true, true, true, false, false, false, true, true, false, false, false, false, false, true, false, false, false, false, false] rfl rfl (by kernel_rfl) (fun _ _ _ h => h) (Or.inl ⟨by rfl, ?_⟩) ?_ ?_
    rotate_left
    · intro w'
      go_simp
      with_reducible rfl
    rotate_left
    · simp only [Act.put, List.setIfInBounds_toArray, List.set_cons_zero, List.set_cons_succ, i64_w, i32_w]
      rfl
    refine pure_ (i := 3) (N := some 15) (v := ?_) (a' := ?_) #[true, true, true, true, false, false, true, true, false, false, false, false, false, true, false, false, false, false, false] rfl rfl (by kernel_rfl) (fun _ _ _ h => h) (Or.inl ⟨by rfl, ?_⟩) ?_ ?_
    rotate_left
    · intro w'
      go_simp
      with_reducible rfl
    rotate_left
    · simp only [Act.put, List.setIfInBounds_toArray, List.set_cons_zero, List.set_cons_succ, i64_w, i32_w]
      rfl
    refine pure_ (i := 4) (N := some 16) (v := ?_) (a' := ?_) #[true, true, true, true, true, false, true, true, false, false, false, false, false, true, false, false, false, false, false] rfl rfl (by kernel_rfl) (fun _ _ _ h => h) (Or.inl ⟨by rfl, ?_⟩) ?_ ?_
    rotate_left
    · intro w'
      go_simp
      with_reducible rfl
    rotate_left
    · simp only [Act.put, List.setIfInBounds_toArray, List.set_cons_zero, List.set_cons_succ, i64_w, i32_w]
      rfl
    refine take_ (i := 5) (N := some 17) (v := ?_) (a' := ?_) #[true, true, true, true, true, true, true, true, false, false, false, false, false, true, false, false, false, false, false] rfl rfl (by kernel_rfl) (fun _ _ _ h => h) (Or.inl ⟨by rfl, ?_⟩) hHeld ?_ ?_
    rotate_left
    · rintro w' ⟨s0, s1, s2⟩
      go_simp
      with_reducible rfl
    rotate_left
    · simp only [Act.put, List.setIfInBounds_toArray, List.set_cons_zero, List.set_cons_succ, i64_w, i32_w]
      rfl
    refine pure_ (i := 8) (N := some 20) (v := ?_) (a' := ?_) #[true, true, true, true, true, true, true, true, true, false, false, false, false, true, false, false, false, false, false] rfl rfl (by kernel_rfl) (fun _ _ _ h => h) (Or.inl ⟨by rfl, ?_⟩) ?_ ?_
    rotate_left
    · intro w'
      go_simp
      with_reducible rfl
    rotate_left
    · simp only [Act.put, List.setIfInBounds_toArray, List.set_cons_zero, List.set_cons_succ, i64_w, i32_w]
      rfl
    refine take_ (i := 9) (N := some 21) (v := ?_) (a' := ?_) #[true, true, true, true, true, true, true, true, true, true, false, false, false, true, false, false, false, false, false] rfl rfl (by kernel_rfl) (fun _ _ _ h => h) (Or.inl ⟨by rfl, ?_⟩) hHeld ?_ ?_
    rotate_left
    · rintro w' ⟨s0, s1, s2⟩
      go_simp
      with_reducible rfl
    rotate_left
    · simp only [Act.put, List.setIfInBounds_toArray, List.set_cons_zero, List.set_cons_succ, i64_w, i32_w]
      rfl
    refine pure_ (i := 10) (N := some 22) (v := ?_) (a' := ?_) #[true, true, true, true, true, true, true, true, true, true, true, false, false, true, false, false, false, false, false] rfl rfl (by kernel_rfl) (fun _ _ _ h => h) (Or.inl ⟨by rfl, ?_⟩) ?_ ?_
    rotate_left
    · intro w'
      go_simp
      with_reducible rfl
    rotate_left
    · simp only [Act.put, List.setIfInBounds_toArray, List.set_cons_zero, List.set_cons_succ, i64_w, i32_w]
      rfl
    refine one_ (i := 11) (N := some 23) #[true, true, true, true, true, true, true, true, true, true, true, true, false, true, false, false, false, false, false] rfl rfl (by kernel_rfl) (by decide) (fun K hK => ?_)
    refine value_ (w1 := ?_) (v := ?_) (by rfl) rfl ?_ ?_
    rotate_left 2
    · go_simp
      constructor
      · rfl
      · rfl
    refine hK.out _ _ ⟨((blk_cell (blk_alloc HB1.out _) 0).trans rfl), ((blk_cell (blk_alloc HB2.out _) 0).trans rfl), ((blk_cell (blk_alloc HP.out _) 0).trans rfl)⟩ (fun hHeld => ?_)
    clear hK K
    refine norm_ (a' := ?_) ?_ ?_
    rotate_left
    · show Act.put _ (some 23) _ = _
      simp only [Act.put, List.setIfInBounds_toArray, List.set_cons_zero, List.set_cons_succ, i64_w, i32_w]
      rfl
    refine one_ (i := 12) (N := some 24) #[true, true, true, true, true, true, true, true, true, true, true, true, true, true, false, false, false, false, false] rfl rfl (by kernel_rfl) (by decide) (fun K hK => ?_)
    refine step_append_grows rfl (.tmp 20) (.tmp 23) 25 rfl 67 i0 _ 3 40 Tryz.underlying25 HI0.out HZ0.out HZ1.out HZ2.out rfl (by decide) none i i ((cellsOf l).take (i * 3)) rfl (fun _ => ⟨by omega, by omega⟩) ?lon ?oldsn ⟨w.heap.size, 0, none⟩ 1 1 [.string name, .string ⟨#[]⟩, .int .i64 0] rfl rfl ?newsn ?onen (by omega) (by unfold maxLen; omega) (by omega) ?_
    case lon => rw [List.length_take, cellsOf_length]; omega
    case oldsn => intro b hb; cases hb
    case newsn =>
      intro j u hj
      match j, hj with
      | 0, hj => simp at hj; subst hj; rw [add_plain]; exact (blk_cell (blk_new w _) 0).trans rfl
      | 1, hj => simp at hj; subst hj; rw [add_plain]; exact (blk_cell (blk_new w _) 1).trans rfl
      | 2, hj => simp at hj; subst hj; rw [add_plain]; exact (blk_cell (blk_new w _) 2).trans rfl
      | j + 3, hj => simp at hj
    case onen => intro u hu; simp at hu; rcases hu with rfl | rfl | rfl <;> rfl
    intro v2 w2 hown hgr
    rw [← insert_cells l i name] at hown
    have hR2 : Kd.R k67 67 w2 base (fun _ => True) v2 (l.take i ++ [(⟨name, ⟨#[]⟩, 0⟩ : S67)]) := R_of_own (by
      have hlen : (l.take i ++ [(⟨name, ⟨#[]⟩, 0⟩ : S67)]).length = i + 1 := by rw [List.length_append, List.length_take, List.length_singleton]; omega
      rw [hlen]
      exact own_weaken hown (by simp; omega))
    have HO2 := Aside0.mk hR2
    have HG2 := Aside0.mk hgr
    clear hown hgr hR2
    refine hK.out _ _ ⟨((blk_cell (keep2 HB1.out HG2.out) 0).trans rfl), ((blk_cell (keep2 HB2.out HG2.out) 0).trans rfl), ((blk_cell (keep2 HP.out HG2.out) 0).trans rfl)⟩ (fun hHeld => ?_)
    clear hK K
    refine norm_ (a' := ?_) ?_ ?_
    rotate_left
    · show Act.put _ (some 24) _ = _
      simp only [Act.put, List.setIfInBounds_toArray, List.set_cons_zero, List.set_cons_succ, i64_w, i32_w]
      rfl
    refine one_ (i := 14) (N := some 26) #[true, true, true, true, true, true, true, true, true, true, true, true, true, true, true, false, false, false, false] rfl rfl (by kernel_rfl) (by decide) (fun K hK => ?_)
    refine Kd.R_append_rows_step k67 (w0 := w) (Rr := fun (x : S67) cs => cs = cells3 x) base (by rfl) (.tmp 24) (.tmp 25) 25 67 (.agg #[(.string ⟨#[]⟩), (.string ⟨#[]⟩), (.int .i64 0)]) 40 rfl Tryz.underlying25 info67 rfl (by decide) (by omega) v2 _ (l.drop i) none (l.length - i) (c - i) (fun _ => True) (fun _ => False) rfl rfl HO2.out ?rdn (fun x cs h => by subst h; exact k67_mkM _ _ _ x) (fun _ h => h.elim) (fun _ _ => trivial) ?beln ?bsn ?bln ?_
    case rdn => exact ⟨by rw [List.length_drop], by omega, fun h => absurd h (by omega)⟩
    case beln => exact below_grown1 (below_drew (below_alloc' (Below.refl base w) hbase)) HG2.out (by simp; omega)
    case bsn => have := HG2.out.size; simp at this; omega
    case bln => rw [List.length_append, List.length_take, List.length_singleton]; omega
    intro v3 w3 ho3 hb3 hg3 _
    rw [← HL3.out] at ho3
    obtain ⟨A9, c9, rfl⟩ := Kd.R_slice ho3
    have HO3 := Aside0.mk ho3
    have HB3 := Aside0.mk hb3
    have HG3 := Aside0.mk hg3
    clear ho3 hb3 hg3
    have hfr := blk_frozen (keep3 HP.out HG2.out HO2.out HG3.out (by decide)) 0
    refine hK.out _ _ ⟨((blk_cell (keep3 HB1.out HG2.out HO2.out HG3.out (by decide)) 0).trans rfl), ((blk_cell (keep3 HB2.out HG2.out HO2.out HG3.out (by decide)) 0).trans rfl), ((blk_cell (keep3 HP.out HG2.out HO2.out HG3.out (by decide)) 0).trans rfl)⟩ (fun hHeld => ?_)
    clear hK K
    refine norm_ (a' := ?_) ?_ ?_
    rotate_left
    · show Act.put _ (some 26) _ = _
      simp only [Act.put, List.setIfInBounds_toArray, List.set_cons_zero, List.set_cons_succ, i64_w, i32_w]
      rfl
    refine pure_ (i := 15) (N := some 27) (v := ?_) (a' := ?_) #[true, true, true, true, true, true, true, true, true, true, true, true, true, true, true, true, false, false, false] rfl rfl (by kernel_rfl) (fun _ _ _ h => h) (Or.inl ⟨by rfl, ?_⟩) ?_ ?_
    rotate_left
    · intro w'
      go_simp
      with_reducible rfl
    rotate_left
    · simp only [Act.put, List.setIfInBounds_toArray, List.set_cons_zero, List.set_cons_succ, i64_w, i32_w]
      rfl
    refine pure_ (i := 16) (N := some 28) (v := ?_) (a' := ?_) #[true, true, true, true, true, true, true, true, true, true, true, true, true, true, true, true, true, false, false] rfl rfl (by kernel_rfl) (fun _ _ _ h => h) (Or.inl ⟨by rfl, ?_⟩) ?_ ?_
    rotate_left
    · intro w'
      go_simp
      with_reducible rfl
    rotate_left
    · simp only [Act.put, List.setIfInBounds_toArray, List.set_cons_zero, List.set_cons_succ, i64_w, i32_w]
      rfl
    refine pure_ (i := 17) (N := some 29) (v := ?_) (a' := ?_) #[true, true, true, true, true, true, true, true, true, true, true, true, true, true, true, true, true, true, false] rfl rfl (by kernel_rfl) (fun _ _ _ h => h) (Or.inl ⟨by rfl, ?_⟩) ?_ ?_
    rotate_left
    · intro w'
      go_simp
      with_reducible rfl
    rotate_left
    · simp only [Act.put, List.setIfInBounds_toArray, List.set_cons_zero, List.set_cons_succ, i64_w, i32_w]
      rfl
    refine last_ (i := 18) (N := none) #[true, true, true, true, true, true, true, true, true, true, true, true, true, true, true, true, true, true, true] rfl rfl (by kernel_rfl) (by decide) (fun K hK => ?_)
    refine skip_ (w1 := ?_) (by rfl) rfl ?_ ?_
    rotate_left
    · go_simp
      rfl
    refine hK.out _ _ ?_
    clear hK K
    refine done_ (by kernel_rfl) ?_
    go_end0
    refine ⟨rfl, _, blk_put (cs := #[.slice none l.length c, .bool dn, .int .i64 fu, .int .i64 fa]) (keep3 HP.out HG2.out HO2.out HG3.out (by decide)) 0 _ rfl, ?_, HB3.out.setCell ?_ _, fun k cs h => ?_⟩
    · exact R1 (j := 0) HO3.out (keep3 HP.out HG2.out HO2.out HG3.out (by decide)) (by decide) _
    · exact hgpb
    · exact blk_far (p := ⟨gp, 0, none⟩) (keep3 h HG2.out HO2.out HG3.out (by decide)) (other_block h HP.out (by decide)) _
  · injection he with e1 e2 e3
    subst e1 e3
    have HH := Aside0.mk hh
    have H6 := Aside0.mk h6
    have hcm : c ≤ 9223372036854775807 := by unfold maxLen at h4; omega
    clear hh h6 h4 h5
    by_cases hci : c = i
    · have hci2 : i = c := hci.symm
      clear hci
      subst hci2
      go_enter Tryz.func167, Tryz.ntmps167
      go_wp2
      refine start_ (n := 19) (S := fun w' => w'.cell? ⟨b1, 0, none⟩ = some (.pointer (some ⟨gp, 0, none⟩)) ∧ w'.cell? ⟨b2, 0, none⟩ = some (.string name) ∧ w'.cell? ⟨gp, 0, none⟩ = some (.slice (some ⟨g, 0, none⟩) l.length i)) (ds := [18]) #[false, false, false, false, false, false, false, false, false, false, false, false, false, false, false, false, false, false, false] (by kernel_rfl) rfl rfl ⟨s1, s3, s2⟩ (fun hHeld => ?_)
      refine pure_ (i := 6) (N := some 18) (v := ?_) (a' := ?_) #[false, false, false, false, false, false, true, false, false, false, false, false, false, false, false, false, false, false, false] rfl rfl (by kernel_rfl) (fun _ _ _ h => h) (Or.inl ⟨by rfl, ?_⟩) ?_ ?_
      rotate_left
      · intro w'
        go_simp
        with_reducible rfl
      rotate_left
      · simp only [Act.put, List.setIfInBounds_toArray, List.set_cons_zero, List.set_cons_succ, i64_w, i32_w]
        rfl
      refine pure_ (i := 7) (N := some 19) (v := ?_) (a' := ?_) #[false, false, false, false, false, false, true, true, false, false, false, false, false, false, false, false, false, false, false] rfl rfl (by kernel_rfl) (fun _ _ _ h => h) (Or.inl ⟨by rfl, ?_⟩) ?_ ?_
      rotate_left
      · intro w'
        go_simp
        with_reducible rfl
      rotate_left
      · simp only [Act.put, List.setIfInBounds_toArray, List.set_cons_zero, List.set_cons_succ, i64_w, i32_w]
        rfl
      refine pure_ (i := 13) (N := some 25) (v := ?_) (a' := ?_) #[false, false, false, false, false, false, true, true, false, false, false, false, false, true, false, false, false, false, false] rfl rfl (by kernel_rfl) (fun _ _ _ h => h) (Or.inl ⟨by rfl, ?_⟩) ?_ ?_
      rotate_left
      · intro w'
        go_simp
        with_reducible rfl
      rotate_left
      · simp only [Act.put, List.setIfInBounds_toArray, List.set_cons_zero, List.set_cons_succ, i64_w, i32_w]
        rfl
      refine take_ (i := 0) (N := some 12) (v := ?_) (a' := ?_) #[true, false, false, false, false, false, true, true, false, false, false, false, false, true, false, false, false, false, false] rfl rfl (by kernel_rfl) (fun _ _ _ h => h) (Or.inl ⟨by rfl, ?_⟩) hHeld ?_ ?_
      rotate_left
      · rintro w' ⟨s0, s1, s2⟩
        go_simp
        with_reducible rfl
      rotate_left
      · simp only [Act.put, List.setIfInBounds_toArray, List.set_cons_zero, List.set_cons_succ, i64_w, i32_w]
        rfl
      refine take_ (i := 1) (N := some 13) (v := ?_) (a' := ?_) #[true, true, false, false, false, false, true, true, false, false, false, false, false, true, false, false, false, false, false] rfl rfl (by kernel_rfl) (fun _ _ _ h => h) (Or.inl ⟨by rfl, ?_⟩) hHeld ?_ ?_
      rotate_left
      · rintro w' ⟨s0, s1, s2⟩
        go_simp
        with_reducible rfl
      rotate_left
      · simp only [Act.put, List.setIfInBounds_toArray, List.set_cons_zero, List.set_cons_succ, i64_w, i32_w]
        rfl
      refine pure_ (i := 2) (N := some 14) (v := ?_) (a' := ?_) #[true, true, true, false, false, false, true, true, false, false, false, false, false, true, false, false, false, false, false] rfl rfl (by kernel_rfl) (fun _ _ _ h => h) (Or.inl ⟨by rfl, ?_⟩) ?_ ?_
      rotate_left
      · intro w'
        go_simp
        with_reducible rfl
      rotate_left
      · simp only [Act.put, List.setIfInBounds_toArray, List.set_cons_zero, List.set_cons_succ, i64_w, i32_w]
        rfl
      refine pure_ (i := 3) (N := some 15) (v := ?_) (a' := ?_) #[true, true, true, true, false, false, true, true, false, false, false, false, false, true, false, false, false, false, false] rfl rfl (by kernel_rfl) (fun _ _ _ h => h) (Or.inl ⟨by rfl, ?_⟩) ?_ ?_
      rotate_left
      · intro w'
        go_simp
        with_reducible rfl
      rotate_left
      · simp only [Act.put, List.setIfInBounds_toArray, List.set_cons_zero, List.set_cons_succ, i64_w, i32_w]
        rfl
      refine pure_ (i := 4) (N := some 16) (v := ?_) (a' := ?_) #[true, true, true, true, true, false, true, true, false, false, false, false, false, true, false, false, false, false, false] rfl rfl (by kernel_rfl) (fun _ _ _ h => h) (Or.inl ⟨by rfl, ?_⟩) ?_ ?_
      rotate_left
      · intro w'
        go_simp
        with_reducible rfl
      rotate_left
      · simp only [Act.put, List.setIfInBounds_toArray, List.set_cons_zero, List.set_cons_succ, i64_w, i32_w]
        rfl
      refine take_ (i := 5) (N := some 17) (v := ?_) (a' := ?_) #[true, true, true, true, true, true, true, true, false, false, false, false, false, true, false, false, false, false, false] rfl rfl (by kernel_rfl) (fun _ _ _ h => h) (Or.inl ⟨by rfl, ?_⟩) hHeld ?_ ?_
      rotate_left
      · rintro w' ⟨s0, s1, s2⟩
        go_simp
        with_reducible rfl
      rotate_left
      · simp only [Act.put, List.setIfInBounds_toArray, List.set_cons_zero, List.set_cons_succ, i64_w, i32_w]
        rfl
      refine pure_ (i := 8) (N := some 20) (v := ?_) (a' := ?_) #[true, true, true, true, true, true, true, true, true, false, false, false, false, true, false, false, false, false, false] rfl rfl (by kernel_rfl) (fun _ _ _ h => h) (Or.inl ⟨by rfl, ?_⟩) ?_ ?_
      rotate_left
      · intro w'
        go_simp
        with_reducible rfl
      rotate_left
      · simp only [Act.put, List.setIfInBounds_toArray, List.set_cons_zero, List.set_cons_succ, i64_w, i32_w]
        rfl
      refine take_ (i := 9) (N := some 21) (v := ?_) (a' := ?_) #[true, true, true, true, true, true, true, true, true, true, false, false, false, true, false, false, false, false, false] rfl rfl (by kernel_rfl) (fun _ _ _ h => h) (Or.inl ⟨by rfl, ?_⟩) hHeld ?_ ?_
      rotate_left
      · rintro w' ⟨s0, s1, s2⟩
        go_simp
        with_reducible rfl
      rotate_left
      · simp only [Act.put, List.setIfInBounds_toArray, List.set_cons_zero, List.set_cons_succ, i64_w, i32_w]
        rfl
      refine pure_ (i := 10) (N := some 22) (v := ?_) (a' := ?_) #[true, true, true, true, true, true, true, true, true, true, true, false, false, true, false, false, false, false, false] rfl rfl (by kernel_rfl) (fun _ _ _ h => h) (Or.inl ⟨by rfl, ?_⟩) ?_ ?_
      rotate_left
      · intro w'
        go_simp
        with_reducible rfl
      rotate_left
      · simp only [Act.put, List.setIfInBounds_toArray, List.set_cons_zero, List.set_cons_succ, i64_w, i32_w]
        rfl
      refine one_ (i := 11) (N := some 23) #[true, true, true, true, true, true, true, true, true, true, true, true, false, true, false, false, false, false, false] rfl rfl (by kernel_rfl) (by decide) (fun K hK => ?_)
      refine value_ (w1 := ?_) (v := ?_) (by rfl) rfl ?_ ?_
      rotate_left 2
      · go_simp
        constructor
        · rfl
        · rfl
      refine hK.out _ _ ⟨((blk_cell (blk_alloc HB1.out _) 0).trans rfl), ((blk_cell (blk_alloc HB2.out _) 0).trans rfl), ((blk_cell (blk_alloc HP.out _) 0).trans rfl)⟩ (fun hHeld => ?_)
      clear hK K
      refine norm_ (a' := ?_) ?_ ?_
      rotate_left
      · show Act.put _ (some 23) _ = _
        simp only [Act.put, List.setIfInBounds_toArray, List.set_cons_zero, List.set_cons_succ, i64_w, i32_w]
        rfl
      refine one_ (i := 12) (N := some 24) #[true, true, true, true, true, true, true, true, true, true, true, true, true, true, false, false, false, false, false] rfl rfl (by kernel_rfl) (by decide) (fun K hK => ?_)
      refine step_append_grows rfl (.tmp 20) (.tmp 23) 25 rfl 67 i0 _ 3 40 Tryz.underlying25 HI0.out HZ0.out HZ1.out HZ2.out rfl (by decide) (some ⟨g, 0, none⟩) i i ((cellsOf l).take (i * 3)) rfl (fun h => by cases h) ?loe ?oldse ⟨w.heap.size, 0, none⟩ 1 1 [.string name, .string ⟨#[]⟩, .int .i64 0] rfl rfl ?newse ?onee (by omega) (by unfold maxLen; omega) (by omega) ?_
      case loe => rw [List.length_take, cellsOf_length]; omega
      case oldse => intro b hb j u hj; injection hb with hb; subst hb; rw [add_plain]; exact R_cell (blk_alloc HH.out _) H6.out (take_get hj)
      case newse =>
        intro j u hj
        match j, hj with
        | 0, hj => simp at hj; subst hj; rw [add_plain]; exact (blk_cell (blk_new w _) 0).trans rfl
        | 1, hj => simp at hj; subst hj; rw [add_plain]; exact (blk_cell (blk_new w _) 1).trans rfl
        | 2, hj => simp at hj; subst hj; rw [add_plain]; exact (blk_cell (blk_new w _) 2).trans rfl
        | j + 3, hj => simp at hj
      case onee => intro u hu; simp at hu; rcases hu with rfl | rfl | rfl <;> rfl
      intro v2 w2 hown hgr
      rw [← insert_cells l i name] at hown
      have hR2 : Kd.R k67 67 w2 base (fun _ => True) v2 (l.take i ++ [(⟨name, ⟨#[]⟩, 0⟩ : S67)]) := R_of_own (by
        have hlen : (l.take i ++ [(⟨name, ⟨#[]⟩, 0⟩ : S67)]).length = i + 1 := by rw [List.length_append, List.length_take, List.length_singleton]; omega
        rw [hlen]
        exact own_weaken hown (by simp; omega))
      have HO2 := Aside0.mk hR2
      have HG2 := Aside0.mk hgr
      clear hown hgr hR2
      refine hK.out _ _ ⟨((blk_cell (keep2 HB1.out HG2.out) 0).trans rfl), ((blk_cell (keep2 HB2.out HG2.out) 0).trans rfl), ((blk_cell (keep2 HP.out HG2.out) 0).trans rfl)⟩ (fun hHeld => ?_)
      clear hK K
      refine norm_ (a' := ?_) ?_ ?_
      rotate_left
      · show Act.put _ (some 24) _ = _
        simp only [Act.put, List.setIfInBounds_toArray, List.set_cons_zero, List.set_cons_succ, i64_w, i32_w]
        rfl
      refine one_ (i := 14) (N := some 26) #[true, true, true, true, true, true, true, true, true, true, true, true, true, true, true, false, false, false, false] rfl rfl (by kernel_rfl) (by decide) (fun K hK => ?_)
      refine Kd.R_append_rows_step k67 (w0 := w) (Rr := fun (x : S67) cs => cs = cells3 x) base (by rfl) (.tmp 24) (.tmp 25) 25 67 (.agg #[(.string ⟨#[]⟩), (.string ⟨#[]⟩), (.int .i64 0)]) 40 rfl Tryz.underlying25 info67 rfl (by decide) (by omega) v2 _ (l.drop i) (some ⟨g, 0, none⟩) 0 0 (fun _ => True) (fun _ => False) rfl rfl HO2.out ?rde (fun x cs h => by subst h; exact k67_mkM _ _ _ x) (fun _ h => h.elim) (fun _ _ => trivial) ?bele ?bse ?ble ?_
      case rde => exact ⟨by rw [List.length_drop]; omega, by omega, fun h => absurd h (by omega)⟩
      case bele => exact below_grown1 (below_drew (below_alloc' (Below.refl base w) hbase)) HG2.out (by simp; omega)
      case bse => have := HG2.out.size; simp at this; omega
      case ble => rw [List.length_append, List.length_take, List.length_singleton]; omega
      intro v3 w3 ho3 hb3 hg3 _
      rw [← HL3.out] at ho3
      obtain ⟨A9, c9, rfl⟩ := Kd.R_slice ho3
      have HO3 := Aside0.mk ho3
      have HB3 := Aside0.mk hb3
      have HG3 := Aside0.mk hg3
      clear ho3 hb3 hg3
      have hfr := blk_frozen (keep3 HP.out HG2.out HO2.out HG3.out (by decide)) 0
      refine hK.out _ _ ⟨((blk_cell (keep3 HB1.out HG2.out HO2.out HG3.out (by decide)) 0).trans rfl), ((blk_cell (keep3 HB2.out HG2.out HO2.out HG3.out (by decide)) 0).trans rfl), ((blk_cell (keep3 HP.out HG2.out HO2.out HG3.out (by decide)) 0).trans rfl)⟩ (fun hHeld => ?_)
      clear hK K
      refine norm_ (a' := ?_) ?_ ?_
      rotate_left
      · show Act.put _ (some 26) _ = _
        simp only [Act.put, List.setIfInBounds_toArray, List.set_cons_zero, List.set_cons_succ, i64_w, i32_w]
        rfl
      refine pure_ (i := 15) (N := some 27) (v := ?_) (a' := ?_) #[true, true, true, true, true, true, true, true, true, true, true, true, true, true, true, true, false, false, false] rfl rfl (by kernel_rfl) (fun _ _ _ h => h) (Or.inl ⟨by rfl, ?_⟩) ?_ ?_
      rotate_left
      · intro w'
        go_simp
        with_reducible rfl
      rotate_left
      · simp only [Act.put, List.setIfInBounds_toArray, List.set_cons_zero, List.set_cons_succ, i64_w, i32_w]
        rfl
      refine pure_ (i := 16) (N := some 28) (v := ?_) (a' := ?_) #[true, true, true, true, true, true, true, true, true, true, true, true, true, true, true, true, true, false, false] rfl rfl (by kernel_rfl) (fun _ _ _ h => h) (Or.inl ⟨by rfl, ?_⟩) ?_ ?_
      rotate_left
      · intro w'
        go_simp
        with_reducible rfl
      rotate_left
      · simp only [Act.put, List.setIfInBounds_toArray, List.set_cons_zero, List.set_cons_succ, i64_w, i32_w]
        rfl
      refine pure_ (i := 17) (N := some 29) (v := ?_) (a' := ?_) #[true, true, true, true, true, true, true, true, true, true, true, true, true, true, true, true, true, true, false] rfl rfl (by kernel_rfl) (fun _ _ _ h => h) (Or.inl ⟨by rfl, ?_⟩) ?_ ?_
      rotate_left
      · intro w'
        go_simp
        with_reducible rfl
      rotate_left
      · simp only [Act.put, List.setIfInBounds_toArray, List.set_cons_zero, List.set_cons_succ, i64_w, i32_w]
        rfl
      refine last_ (i := 18) (N := none) #[true, true, true, true, true, true, true, true, true, true, true, true, true, true, true, true, true, true, true] rfl rfl (by kernel_rfl) (by decide) (fun K hK => ?_)
      refine skip_ (w1 := ?_) (by rfl) rfl ?_ ?_
      rotate_left
      · go_simp
        rfl
      refine hK.out _ _ ?_
      clear hK K
      refine done_ (by kernel_rfl) ?_
      go_end0
      refine ⟨rfl, _, blk_put (cs := #[.slice (some ⟨g, 0, none⟩) l.length i, .bool dn, .int .i64 fu, .int .i64 fa]) (keep3 HP.out HG2.out HO2.out HG3.out (by decide)) 0 _ rfl, ?_, HB3.out.setCell ?_ _, fun k cs h => ?_⟩
      · exact R1 (j := 0) HO3.out (keep3 HP.out HG2.out HO2.out HG3.out (by decide)) (by decide) _
      · exact hgpb
      · exact blk_far (p := ⟨gp, 0, none⟩) (keep3 h HG2.out HO2.out HG3.out (by decide)) (other_block h HP.out (by decide)) _
    · go_enter Tryz.func167, Tryz.ntmps167
      go_wp2
      refine start_ (n := 19) (S := fun w' => w'.cell? ⟨b1, 0, none⟩ = some (.pointer (some ⟨gp, 0, none⟩)) ∧ w'.cell? ⟨b2, 0, none⟩ = some (.string name) ∧ w'.cell? ⟨gp, 0, none⟩ = some (.slice (some ⟨g, 0, none⟩) l.length c)) (ds := [18]) #[false, false, false, false, false, false, false, false, false, false, false, false, false, false, false, false, false, false, false] (by kernel_rfl) rfl rfl ⟨s1, s3, s2⟩ (fun hHeld => ?_)
      refine pure_ (i := 6) (N := some 18) (v := ?_) (a' := ?_) #[false, false, false, false, false, false, true, false, false, false, false, false, false, false, false, false, false, false, false] rfl rfl (by kernel_rfl) (fun _ _ _ h => h) (Or.inl ⟨by rfl, ?_⟩) ?_ ?_
      rotate_left
      · intro w'
        go_simp
        with_reducible rfl
      rotate_left
      · simp only [Act.put, List.setIfInBounds_toArray, List.set_cons_zero, List.set_cons_succ, i64_w, i32_w]
        rfl
      refine pure_ (i := 7) (N := some 19) (v := ?_) (a' := ?_) #[false, false, false, false, false, false, true, true, false, false, false, false, false, false, false, false, false, false, false] rfl rfl (by kernel_rfl) (fun _ _ _ h => h) (Or.inl ⟨by rfl, ?_⟩) ?_ ?_
      rotate_left
      · intro w'
        go_simp
        with_reducible rfl
      rotate_left
      · simp only [Act.put, List.setIfInBounds_toArray, List.set_cons_zero, List.set_cons_succ, i64_w, i32_w]
        rfl
      refine pure_ (i := 13) (N := some 25) (v := ?_) (a' := ?_) #[false, false, false, false, false, false, true, true, false, false, false, false, false, true, false, false, false, false, false] rfl rfl (by kernel_rfl) (fun _ _ _ h => h) (Or.inl ⟨by rfl, ?_⟩) ?_ ?_
      rotate_left
      · intro w'
        go_simp
        with_reducible rfl
      rotate_left
      · simp only [Act.put, List.setIfInBounds_toArray, List.set_cons_zero, List.set_cons_succ, i64_w, i32_w]
        rfl
      refine take_ (i := 0) (N := some 12) (v := ?_) (a' := ?_) #[true, false, false, false, false, false, true, true, false, false, false, false, false, true, false, false, false, false, false] rfl rfl (by kernel_rfl) (fun _ _ _ h => h) (Or.inl ⟨by rfl, ?_⟩) hHeld ?_ ?_
      rotate_left
      · rintro w' ⟨s0, s1, s2⟩
        go_simp
        with_reducible rfl
      rotate_left
      · simp only [Act.put, List.setIfInBounds_toArray, List.set_cons_zero, List.set_cons_succ, i64_w, i32_w]
        rfl
      refine take_ (i := 1) (N := some 13) (v := ?_) (a' := ?_) #[true, true, false, false, false, false, true, true, false, false, false, false, false, true, false, false, false, false, false] rfl rfl (by kernel_rfl) (fun _ _ _ h => h) (Or.inl ⟨by rfl, ?_⟩) hHeld ?_ ?_
      rotate_left
      · rintro w' ⟨s0, s1, s2⟩
        go_simp
        with_reducible rfl
      rotate_left
      · simp only [Act.put, List.setIfInBounds_toArray, List.set_cons_zero, List.set_cons_succ, i64_w, i32_w]
        rfl
      refine pure_ (i := 2) (N := some 14) (v := ?_) (a' := ?_) #[true, true, true, false, false, false, true, true, false, false, false, false, false, true, false, false, false, false, false] rfl rfl (by kernel_rfl) (fun _ _ _ h => h) (Or.inl ⟨by rfl, ?_⟩) ?_ ?_
      rotate_left
      · intro w'
        go_simp
        with_reducible rfl
      rotate_left
      · simp only [Act.put, List.setIfInBounds_toArray, List.set_cons_zero, List.set_cons_succ, i64_w, i32_w]
        rfl
      refine pure_ (i := 3) (N := some 15) (v := ?_) (a' := ?_) #[true, true, true, true, false, false, true, true, false, false, false, false, false, true, false, false, false, false, false] rfl rfl (by kernel_rfl) (fun _ _ _ h => h) (Or.inl ⟨by rfl, ?_⟩) ?_ ?_
      rotate_left
      · intro w'
        go_simp
        with_reducible rfl
      rotate_left
      · simp only [Act.put, List.setIfInBounds_toArray, List.set_cons_zero, List.set_cons_succ, i64_w, i32_w]
        rfl
      refine pure_ (i := 4) (N := some 16) (v := ?_) (a' := ?_) #[true, true, true, true, true, false, true, true, false, false, false, false, false, true, false, false, false, false, false] rfl rfl (by kernel_rfl) (fun _ _ _ h => h) (Or.inl ⟨by rfl, ?_⟩) ?_ ?_
      rotate_left
      · intro w'
        go_simp
        with_reducible rfl
      rotate_left
      · simp only [Act.put, List.setIfInBounds_toArray, List.set_cons_zero, List.set_cons_succ, i64_w, i32_w]
        rfl
      refine take_ (i := 5) (N := some 17) (v := ?_) (a' := ?_) #[true, true, true, true, true, true, true, true, false, false, false, false, false, true, false, false, false, false, false] rfl rfl (by kernel_rfl) (fun _ _ _ h => h) (Or.inl ⟨by rfl, ?_⟩) hHeld ?_ ?_
      rotate_left
      · rintro w' ⟨s0, s1, s2⟩
        go_simp
        with_reducible rfl
      rotate_left
      · simp only [Act.put, List.setIfInBounds_toArray, List.set_cons_zero, List.set_cons_succ, i64_w, i32_w]
        rfl
      refine pure_ (i := 8) (N := some 20) (v := ?_) (a' := ?_) #[true, true, true, true, true, true, true, true, true, false, false, false, false, true, false, false, false, false, false] rfl rfl (by kernel_rfl) (fun _ _ _ h => h) (Or.inl ⟨by rfl, ?_⟩) ?_ ?_
      rotate_left
      · intro w'
        go_simp
        with_reducible rfl
      rotate_left
      · simp only [Act.put, List.setIfInBounds_toArray, List.set_cons_zero, List.set_cons_succ, i64_w, i32_w]
        rfl
      refine take_ (i := 9) (N := some 21) (v := ?_) (a' := ?_) #[true, true, true, true, true, true, true, true, true, true, false, false, false, true, false, false, false, false, false] rfl rfl (by kernel_rfl) (fun _ _ _ h => h) (Or.inl ⟨by rfl, ?_⟩) hHeld ?_ ?_
      rotate_left
      · rintro w' ⟨s0, s1, s2⟩
        go_simp
        with_reducible rfl
      rotate_left
      · simp only [Act.put, List.setIfInBounds_toArray, List.set_cons_zero, List.set_cons_succ, i64_w, i32_w]
        rfl
      refine pure_ (i := 10) (N := some 22) (v := ?_) (a' := ?_) #[true, true, true, true, true, true, true, true, true, true, true, false, false, true, false, false, false, false, false] rfl rfl (by kernel_rfl) (fun _ _ _ h => h) (Or.inl ⟨by rfl, ?_⟩) ?_ ?_
      rotate_left
      · intro w'
        go_simp
        with_reducible rfl
      rotate_left
      · simp only [Act.put, List.setIfInBounds_toArray, List.set_cons_zero, List.set_cons_succ, i64_w, i32_w]
        rfl
      refine one_ (i := 11) (N := some 23) #[true, true, true, true, true, true, true, true, true, true, true, true, false, true, false, false, false, false, false] rfl rfl (by kernel_rfl) (by decide) (fun K hK => ?_)
      refine value_ (w1 := ?_) (v := ?_) (by rfl) rfl ?_ ?_
      rotate_left 2
      · go_simp
        constructor
        · rfl
        · rfl
      refine hK.out _ _ ⟨((blk_cell (blk_alloc HB1.out _) 0).trans rfl), ((blk_cell (blk_alloc HB2.out _) 0).trans rfl), ((blk_cell (blk_alloc HP.out _) 0).trans rfl)⟩ (fun hHeld => ?_)
      clear hK K
      refine norm_ (a' := ?_) ?_ ?_
      rotate_left
      · show Act.put _ (some 23) _ = _
        simp only [Act.put, List.setIfInBounds_toArray, List.set_cons_zero, List.set_cons_succ, i64_w, i32_w]
        rfl
      refine one_ (i := 12) (N := some 24) #[true, true, true, true, true, true, true, true, true, true, true, true, true, true, false, false, false, false, false] rfl rfl (by kernel_rfl) (by decide) (fun K hK => ?_)
      refine step_append_grows rfl (.tmp 20) (.tmp 23) 25 rfl 67 i0 _ 3 40 Tryz.underlying25 HI0.out HZ0.out HZ1.out HZ2.out rfl (by decide) (some ⟨g, 0, none⟩) i i ((cellsOf l).take (i * 3)) rfl (fun h => by cases h) ?log ?oldsg ⟨w.heap.size, 0, none⟩ 1 1 [.string name, .string ⟨#[]⟩, .int .i64 0] rfl rfl ?newsg ?oneg (by omega) (by unfold maxLen; omega) (by omega) ?_
      case log => rw [List.length_take, cellsOf_length]; omega
      case oldsg => intro b hb j u hj; injection hb with hb; subst hb; rw [add_plain]; exact R_cell (blk_alloc HH.out _) H6.out (take_get hj)
      case newsg =>
        intro j u hj
        match j, hj with
        | 0, hj => simp at hj; subst hj; rw [add_plain]; exact (blk_cell (blk_new w _) 0).trans rfl
        | 1, hj => simp at hj; subst hj; rw [add_plain]; exact (blk_cell (blk_new w _) 1).trans rfl
        | 2, hj => simp at hj; subst hj; rw [add_plain]; exact (blk_cell (blk_new w _) 2).trans rfl
        | j + 3, hj => simp at hj
      case oneg => intro u hu; simp at hu; rcases hu with rfl | rfl | rfl <;> rfl
      intro v2 w2 hown hgr
      rw [← insert_cells l i name] at hown
      have hR2 : Kd.R k67 67 w2 base (fun _ => True) v2 (l.take i ++ [(⟨name, ⟨#[]⟩, 0⟩ : S67)]) := R_of_own (by
        have hlen : (l.take i ++ [(⟨name, ⟨#[]⟩, 0⟩ : S67)]).length = i + 1 := by rw [List.length_append, List.length_take, List.length_singleton]; omega
        rw [hlen]
        exact own_weaken hown (by simp; omega))
      have HO2 := Aside0.mk hR2
      have HG2 := Aside0.mk hgr
      clear hown hgr hR2
      refine hK.out _ _ ⟨((blk_cell (keep2 HB1.out HG2.out) 0).trans rfl), ((blk_cell (keep2 HB2.out HG2.out) 0).trans rfl), ((blk_cell (keep2 HP.out HG2.out) 0).trans rfl)⟩ (fun hHeld => ?_)
      clear hK K
      refine norm_ (a' := ?_) ?_ ?_
      rotate_left
      · show Act.put _ (some 24) _ = _
        simp only [Act.put, List.setIfInBounds_toArray, List.set_cons_zero, List.set_cons_succ, i64_w, i32_w]
        rfl
      refine one_ (i := 14) (N := some 26) #[true, true, true, true, true, true, true, true, true, true, true, true, true, true, true, false, false, false, false] rfl rfl (by kernel_rfl) (by decide) (fun K hK => ?_)
      refine Kd.R_append_rows_step k67 (w0 := w) (Rr := fun (x : S67) cs => cs = cells3 x) base (by rfl) (.tmp 24) (.tmp 25) 25 67 (.agg #[(.string ⟨#[]⟩), (.string ⟨#[]⟩), (.int .i64 0)]) 40 rfl Tryz.underlying25 info67 rfl (by decide) (by omega) v2 _ (l.drop i) (some ⟨g, i * 3, none⟩) (l.length - i) (c - i) (fun _ => True) (fun _ => False) rfl rfl HO2.out ?rdg (fun x cs h => by subst h; exact k67_mkM _ _ _ x) (fun _ h => h.elim) (fun _ _ => trivial) ?belg ?bsg ?blg ?_
      case rdg => exact reads_behind (keep2 HH.out HG2.out) H6.out (by omega) _ (fun _ => rfl)
      case belg => exact below_grown1 (below_drew (below_alloc' (Below.refl base w) hbase)) HG2.out (by simp; omega)
      case bsg => have := HG2.out.size; simp at this; omega
      case blg => rw [List.length_append, List.length_take, List.length_singleton]; omega
      intro v3 w3 ho3 hb3 hg3 _
      rw [← HL3.out] at ho3
      obtain ⟨A9, c9, rfl⟩ := Kd.R_slice ho3
      have HO3 := Aside0.mk ho3
      have HB3 := Aside0.mk hb3
      have HG3 := Aside0.mk hg3
      clear ho3 hb3 hg3
      have hfr := blk_frozen (keep3 HP.out HG2.out HO2.out HG3.out (by decide)) 0
      refine hK.out _ _ ⟨((blk_cell (keep3 HB1.out HG2.out HO2.out HG3.out (by decide)) 0).trans rfl), ((blk_cell (keep3 HB2.out HG2.out HO2.out HG3.out (by decide)) 0).trans rfl), ((blk_cell (keep3 HP.out HG2.out HO2.out HG3.out (by decide)) 0).trans rfl)⟩ (fun hHeld => ?_)
      clear hK K
      refine norm_ (a' := ?_) ?_ ?_
      rotate_left
      · show Act.put _ (some 26) _ = _
        simp only [Act.put, List.setIfInBounds_toArray, List.set_cons_zero, List.set_cons_succ, i64_w, i32_w]
        rfl
      refine pure_ (i := 15) (N := some 27) (v := ?_) (a' := ?_) #[true, true, true, true, true, true, true, true, true, true, true, true, true, true, true, true, false, false, false] rfl rfl (by kernel_rfl) (fun _ _ _ h => h) (Or.inl ⟨by rfl, ?_⟩) ?_ ?_
      rotate_left
      · intro w'
        go_simp
        with_reducible rfl
      rotate_left
      · simp only [Act.put, List.setIfInBounds_toArray, List.set_cons_zero, List.set_cons_succ, i64_w, i32_w]
        rfl
      refine pure_ (i := 16) (N := some 28) (v := ?_) (a' := ?_) #[true, true, true, true, true, true, true, true, true, true, true, true, true, true, true, true, true, false, false] rfl rfl (by kernel_rfl) (fun _ _ _ h => h) (Or.inl ⟨by rfl, ?_⟩) ?_ ?_
      rotate_left
      · intro w'
        go_simp
        with_reducible rfl
      rotate_left
      · simp only [Act.put, List.setIfInBounds_toArray, List.set_cons_zero, List.set_cons_succ, i64_w, i32_w]
        rfl
      refine pure_ (i := 17) (N := some 29) (v := ?_) (a' := ?_) #[true, true, true, true, true, true, true, true, true, true, true, true, true, true, true, true, true, true, false] rfl rfl (by kernel_rfl) (fun _ _ _ h => h) (Or.inl ⟨by rfl, ?_⟩) ?_ ?_
      rotate_left
      · intro w'
        go_simp
        with_reducible rfl
      rotate_left
      · simp only [Act.put, List.setIfInBounds_toArray, List.set_cons_zero, List.set_cons_succ, i64_w, i32_w]
        rfl
      refine last_ (i := 18) (N := none) #[true, true, true, true, true, true, true, true, true, true, true, true, true, true, true, true, true, true, true] rfl rfl (by kernel_rfl) (by decide) (fun K hK => ?_)
      refine skip_ (w1 := ?_) (by rfl) rfl ?_ ?_
      rotate_left
      · go_simp
        rfl
      refine hK.out _ _ ?_
      clear hK K
      refine done_ (by kernel_rfl) ?_
      go_end0
      refine ⟨rfl, _, blk_put (cs := #[.slice (some ⟨g, 0, none⟩) l.length c, .bool dn, .int .i64 fu, .int .i64 fa]) (keep3 HP.out HG2.out HO2.out HG3.out (by decide)) 0 _ rfl, ?_, HB3.out.setCell ?_ _, fun k cs h => ?_⟩
      · exact R1 (j := 0) HO3.out (keep3 HP.out HG2.out HO2.out HG3.out (by decide)) (by decide) _
      · exact hgpb
      · exact blk_far (p := ⟨gp, 0, none⟩) (keep3 h HG2.out HO2.out HG3.out (by decide)) (other_block h HP.out (by decide)) _
set_option maxHeartbeats 4000000 in
set_option maxRecDepth 100000 in
theorem create_inner (W w1 : World) (gp : Nat) (v : Value) (l : List S67) (dn : Bool) (fu fa : Int) (name : ByteArray) (sd : Int → List S67) (hsd : ∀ i : Nat, i ≤ l.length → sd (i : Int) = l.take i ++ [(⟨name, ⟨#[]⟩, 0⟩ : S67)] ++ l.drop i) (hb : Below W.heap.size W w1) (hgp : W.heap.size ≤ gp) (hp : w1.heap[gp]? = some (.cells #[v, .bool dn, .int .i64 fu, .int .i64 fa] 211 (0, 0)))
    (ho : Kd.R k67 67 w1 W.heap.size (fun _ => True) v l) (hok : rightF l = true) :
    Calls Tryz.prog 125 #[.pointer (some ⟨gp, 0, none⟩), .string name] w1 fun e w2 => ∃ rv dv : Value, e = .returned (.agg #[rv, dv, .bool false]) ∧ Below w1.heap.size w1 w2 ∧ RefV w2 rv l.length (rfC name l.length) ∧ DoV W.heap.size gp w2 dv v l (rfC name l.length) sd := by
  obtain ⟨A, c, rfl⟩ := Kd.R_slice ho
  have hlt : gp < w1.heap.size := blk_lt hp
  have hle : l.length ≤ 64 := by
    simp only [rightF, Bool.and_eq_true, decide_eq_true_eq] at hok
    exact hok.2
  go_enter Tryz.func125, Tryz.ntmps125
  go_wp2
  refine bodyPost_ret (results_cell_row rfl _ _ (w1.heap.size + 2) 179 #[.func (.func 166) #[] #[.pointer (some ⟨w1.heap.size + 1, 0, none⟩), .pointer (some ⟨w1.heap.size, 0, none⟩)], .func (.func 167) #[] #[.pointer (some ⟨w1.heap.size, 0, none⟩), .pointer (some ⟨w1.heap.size + 1, 0, none⟩)], .bool false] (0, 0) _ rfl (new33 w1 _ _ _) Tryz.underlying179 rfl (by kernel_rfl)) rfl ?_
  refine ⟨_, _, rfl, below_alloc (below_alloc (below_alloc (Below.refl _ _) _) _) _, ⟨166, _, rfl, enters55, fun w3 i b hb3 hil hib => ?_⟩, 167, _, rfl, enters56, fun w3 i b dn fu fa hk hil hib hrf hp3 ho3 => ?_⟩
  · refine calls_of_args (args' := #[.int .i64 (i : Int), .bool b, .pointer (some ⟨w1.heap.size + 1, 0, none⟩), .pointer (some ⟨w1.heap.size, 0, none⟩)]) (by simp) ?_
    have hbb1 := hb3 _ _ _ (by decide) (by decide) (by simp) (new31 w1 _ _ _)
    have hbb2 := hb3 _ _ _ (by decide) (by decide) (by simp) (new32 w1 _ _ _)
    have hpp := hb3 _ _ _ (by decide) (by decide) (by simp) (blk_alloc (blk_alloc (blk_alloc hp _) _) _)
    refine (create_refuse w3 gp w1.heap.size (w1.heap.size + 1) name A l.length c i b (by omega) ((blk_cell hbb2 0).trans rfl) ((blk_cell hbb1 0).trans rfl) ((blk_cell hpp 0).trans rfl)).mono ?_
    rintro e w4 ⟨rfl, rfl⟩
    exact ⟨rfl, Below.refl _ _⟩
  · refine calls_of_args (args' := #[.int .i64 (i : Int), .pointer (some ⟨w1.heap.size, 0, none⟩), .pointer (some ⟨w1.heap.size + 1, 0, none⟩)]) (by simp) ?_
    have hbb1 := hk _ _ _ (by decide) (by decide) (fun h => by injection h with h; omega) (new31 w1 _ _ _)
    have hbb2 := hk _ _ _ (by decide) (by decide) (fun h => by injection h with h; omega) (new32 w1 _ _ _)
    have hsz : W.heap.size ≤ w3.heap.size := by have := blk_lt hp3; omega
    refine (create_do gp w1.heap.size (w1.heap.size + 1) w3 W.heap.size l name A c dn fu fa i hil hle hbb1 hbb2 ⟨hp3, ho3⟩ hsz hgp).mono fun e w4 h => ?_
    rw [hsd i hil]
    exact h
set_option maxHeartbeats 4000000 in
set_option maxRecDepth 100000 in
theorem create_of (W : World) (nb : Nat) (l : List S67) (dn : Bool) (fu fa : Int) (name : ByteArray) (sd : Int → List S67) (hsd : ∀ i : Nat, i ≤ l.length → sd (i : Int) = l.take i ++ [(⟨name, ⟨#[]⟩, 0⟩ : S67)] ++ l.drop i) (hnb : W.heap[nb]? = some (.cells #[.string name] 9 (0, 0))) :
    OfV W 124 #[.pointer (some ⟨nb, 0, none⟩)] l dn fu fa false (rfC name l.length) sd := by
  intro w1 gp v hb hgp hp ho hok
  have hc := (blk_cell (blk_below hnb hb) 0).trans rfl
  refine calls_of_args (args' := #[.pointer (some ⟨gp, 0, none⟩), .pointer (some ⟨nb, 0, none⟩)]) (by simp) ?_
  have HB := Aside0.mk hb
  have HGP := Aside0.mk hgp
  have HP := Aside0.mk hp
  have HO := Aside0.mk ho
  have HOK := Aside0.mk hok
  clear hb hgp hp ho hok hnb
  go_enter Tryz.func124, Tryz.ntmps124
  go_wp2_with (first
    | ((with_reducible refine gate_dst (N := 3) rfl ?_);
        refine box_event ?hg (N := 3) ?hd (cs := #[.nilFunc, .nilFunc, .bool false]) (t := 179) ?hr ?_;
        (case hd => rfl); (case hg => rfl); (case hr => first | (go_simp; done) | (go_simp; rfl));
        intro g3 hg w2 hbox hb2;
        have N3 := Aside0.mk (show w1.heap.size ≤ g3 by rw [hg]; exact Nat.le_refl _);
        have hc2 := (hb2.cell (World.block_lt_of_cell? w1 _ hc)).trans hc;
        have HB2 := Aside0.mk hb2; have BK3 := Aside0.mk hbox; clear hg hbox hb2 hc)
    | fail)
  refine ((create_inner W _ gp v l dn fu fa name sd hsd (below_step HB.out HB2.out) HGP.out (blk_below HP.out HB2.out) (Kd.R_below HO.out HB2.out) HOK.out).mono ?_)
  rintro e w4 ⟨rv, dv, rfl, hb4, ⟨Kr, cr, rfl, hKr, hrf⟩, ⟨Kd_, cd, rfl, hKd, hdo⟩⟩
  have HKr := Aside0.mk hKr
  have Hrf := Aside0.mk hrf
  have HKd := Aside0.mk hKd
  have Hdo := Aside0.mk hdo
  have HB4 := Aside0.mk hb4
  have bk := blk_below BK3.out hb4
  have c0 := (blk_cell bk 0).trans rfl
  have c1 := (blk_cell bk 1).trans rfl
  have c2 := (blk_cell bk 2).trans rfl
  have f0 := blk_frozen bk 0
  have f1 := blk_frozen bk 1
  have f2 := blk_frozen bk 2
  have BK4 := Aside0.mk bk
  clear hKr hrf hKd hdo hb4 bk
  go_wp2
  refine bodyPost_ret (results_cell_row rfl _ _ g3 179 #[.func (.func Kr) #[] cr, .func (.func Kd_) #[] cd, .bool false] (0, 0) _ rfl (put3 BK4.out _ _ _) Tryz.underlying179 rfl (by kernel_rfl)) rfl ?_
  have hw4 : Below w1.heap.size w1 w4 := below_step HB2.out HB4.out
  have hgg : ∀ (k : Nat), k ≠ g3 → (((w4.setCell ⟨g3, 0, none⟩ (.func (.func Kr) #[] cr)).setCell ⟨g3, 1, none⟩ (.func (.func Kd_) #[] cd)).setCell ⟨g3, 2, none⟩ (.bool false)).heap[k]? = w4.heap[k]? := fun k hk =>
    ((Below.heap_setCell _ ⟨g3, 2, none⟩ _ k hk).trans (Below.heap_setCell _ ⟨g3, 1, none⟩ _ k hk)).trans (Below.heap_setCell _ ⟨g3, 0, none⟩ _ k hk)
  refine ⟨_, _, rfl, below3 hw4 N3.out _ _ _, ⟨Kr, cr, rfl, HKr.out, ?_⟩, Kd_, cd, rfl, HKd.out, ?_⟩
  · intro w5 i b hk hil hib
    refine Hrf.out w5 i b (fun k cs t h1 h2 h3 h4 => hk k cs t h1 h2 h3 ?_) hil hib
    rw [hgg k (fun e => by subst e; exact absurd h4 (ne63 BK4.out h1))]
    exact h4
  · intro w5 i b dn fu fa hk
    refine Hdo.out w5 i b dn fu fa (fun k cs t h1 h2 h3 h4 => hk k cs t h1 h2 h3 ?_)
    rw [hgg k (fun e => by subst e; exact absurd h4 (ne63 BK4.out h1))]
    exact h4
end Go.Proofs.YtanonhipicoigaaGreatDoor.U
namespace Go.Proofs.YtanonhipicoigaaGreatDoor.U
open Go.RowKit Go.Proofs.YtanonhipicoigaaGreatDoorW.PrintWords Go.Proofs.YtanonhipicoigaaGreatDoorW.PrintLast Go.Proofs.YtanonhipicoigaaGreatDoorW.PrintMore
set_option linter.unusedVariables false
set_option linter.unusedSimpArgs false
/-! ### write -/
theorem ok_get : ∀ (last : List UInt8) (l : List S67) (i : Nat) (x : S67), okFiles last l = true → l[i]? = some x → x.f0.size ≤ 4096 ∧ x.f1.size ≤ 262144 ∧ 0 ≤ x.f2 ∧ x.f2 ≤ (x.f1.size : Int)
  | _, [], i, x, _, h => by simp at h
  | last, y :: l, 0, x, hk, h => by
    obtain rfl : y = x := by simpa using h
    simp only [okFiles, okFile, Bool.and_eq_true, decide_eq_true_eq] at hk
    exact ⟨hk.1.1.1.1.2, hk.1.1.1.2, hk.1.1.2, hk.1.2⟩
  | last, y :: l, i + 1, x, hk, h => by
    simp only [okFiles, Bool.and_eq_true] at hk
    exact ok_get y.f0.toList l i x hk.2 (by simpa using h)
theorem right_get {l : List S67} (h : rightF l = true) {i : Nat} {x : S67} (hx : l[i]? = some x) : x.f0.size ≤ 4096 ∧ x.f1.size ≤ 262144 ∧ 0 ≤ x.f2 ∧ x.f2 ≤ (x.f1.size : Int) := by
  simp only [rightF, Bool.and_eq_true] at h
  exact ok_get [] l i x h.1 hx
theorem rd_get {l : List S67} {i : Nat} {x : S67} (hx : l[i]? = some x) : rd_T67 l (i : Int) = x := by
  simp [rd_T67, List.getD, hx]
/-- What appending refuses. -/
def rfW (data : ByteArray) (l : List S67) (i : Int) (b : Bool) : Int := if b = true then (if 262144 - ((rd_T67 l i).f1.size : Int) < (data.size : Int) then 8 else 0) else 7
theorem enters48 : Enters 175 := fun args w => enters_ Tryz.func175 (by kernel_rfl) (by kernel_rfl) args w
theorem enters50 : Enters 176 := fun args w => enters_ Tryz.func176 (by kernel_rfl) (by kernel_rfl) args w
set_option maxHeartbeats 4000000 in
set_option maxRecDepth 100000 in
theorem write_refuse (w : World) (gp b1 b2 g : Nat) (cur : Array Value) (data : ByteArray) (l : List S67) (c : Nat) (i : Nat) (x : S67) (hx : l[i]? = some x) (hsz : x.f1.size ≤ 262144) (hn : l.length ≤ 64) (s3 : w.cell? ⟨b2, 0, none⟩ = some (.string data)) (s1 : w.cell? ⟨b1, 0, none⟩ = some (.pointer (some ⟨gp, 0, none⟩)))
    (s2 : w.cell? ⟨gp, 0, none⟩ = some (.slice (some ⟨g, 0, none⟩) l.length c)) (hh : w.heap[g]? = some (.cells cur 67 (0, 0))) (h6 : cur.toList.take (l.length * 3) = cellsOf l) :
    Calls Tryz.prog 175 #[.int .i64 (i : Int), .bool true, .pointer (some ⟨b2, 0, none⟩), .pointer (some ⟨b1, 0, none⟩)] w fun e w' => e = .returned (.int .i64 (rfW data l i true)) ∧ Below w.heap.size w w' := by
  have hlt : i < l.length := (List.getElem?_eq_some_iff.1 hx).1
  obtain ⟨e0, e1, e2⟩ := cellsOf_get l i x hx
  have s4 : w.cell? ⟨g, i * 3 + 1, none⟩ = some (.string x.f1) := R_cell hh h6 e1
  have hi0 : (0 : Int) ≤ (i : Int) := by omega
  have hi1 : (i : Int) < (l.length : Int) := by omega
  have hz0 : (x.f1.size : Int) ≤ 262144 := by omega
  obtain ⟨R, hR⟩ : ∃ R, R = rfW data l i true := ⟨_, rfl⟩
  rw [← hR]
  have HR : Aside0 (R = if 262144 - (x.f1.size : Int) < (data.size : Int) then 8 else 0) := ⟨by rw [hR, rfW, if_pos rfl, rd_get hx]⟩
  clear hR hx hh h6 e0 e1 e2 hsz
  go_enter Tryz.func175, Tryz.ntmps175
  go_wp2_with (go_at_call 160; refine (there_any _ _ _).mono ?_; rintro e w' ⟨rfl, rfl⟩)
  refine start_ (n := 14) (S := fun w' => w'.cell? ⟨b2, 0, none⟩ = some (.string data) ∧ w'.cell? ⟨b1, 0, none⟩ = some (.pointer (some ⟨gp, 0, none⟩)) ∧ w'.cell? ⟨gp, 0, none⟩ = some (.slice (some ⟨g, 0, none⟩) l.length c) ∧ w'.cell? ⟨g, i * 3 + 1, none⟩ = some (.string x.f1)) (ds := []) #[false, false, false, false, false, false, false, false, false, false, false, false, false, false] (by kernel_rfl) rfl rfl ⟨s3, s1, s2, s4⟩ (fun hHeld => ?_)
  refine pure_ (i := 7) (N := some 21) (v := ?_) (a' := ?_) #[false, false, false, false, false, false, false, true, false, false, false, false, false, false] rfl rfl (by kernel_rfl) (fun _ _ _ h => h) (Or.inl ⟨by rfl, ?_⟩) ?_ ?_
  rotate_left
  · intro w'
    go_simp
    with_reducible rfl
  rotate_left
  · simp only [Act.put, List.setIfInBounds_toArray, List.set_cons_zero, List.set_cons_succ, i64_w, i32_w]
    rfl
  refine take_ (i := 0) (N := some 14) (v := ?_) (a' := ?_) #[true, false, false, false, false, false, false, true, false, false, false, false, false, false] rfl rfl (by kernel_rfl) (fun _ _ _ h => h) (Or.inl ⟨by rfl, ?_⟩) hHeld ?_ ?_
  rotate_left
  · rintro w' ⟨s0, s1, s2, s3⟩
    go_simp
    with_reducible rfl
  rotate_left
  · simp only [Act.put, List.setIfInBounds_toArray, List.set_cons_zero, List.set_cons_succ, i64_w, i32_w]
    rfl
  refine pure_ (i := 1) (N := some 15) (v := ?_) (a' := ?_) #[true, true, false, false, false, false, false, true, false, false, false, false, false, false] rfl rfl (by kernel_rfl) (fun _ _ _ h => h) (Or.inl ⟨by rfl, ?_⟩) ?_ ?_
  rotate_left
  · intro w'
    go_simp
    with_reducible rfl
  rotate_left
  · simp only [Act.put, List.setIfInBounds_toArray, List.set_cons_zero, List.set_cons_succ, i64_w, i32_w]
    rfl
  refine take_ (i := 2) (N := some 16) (v := ?_) (a' := ?_) #[true, true, true, false, false, false, false, true, false, false, false, false, false, false] rfl rfl (by kernel_rfl) (fun _ _ _ h => h) (Or.inl ⟨by rfl, ?_⟩) hHeld ?_ ?_
  rotate_left
  · rintro w' ⟨s0, s1, s2, s3⟩
    go_simp
    with_reducible rfl
  rotate_left
  · simp only [Act.put, List.setIfInBounds_toArray, List.set_cons_zero, List.set_cons_succ, i64_w, i32_w]
    rfl
  refine pure_ (i := 3) (N := some 17) (v := ?_) (a' := ?_) #[true, true, true, true, false, false, false, true, false, false, false, false, false, false] rfl rfl (by kernel_rfl) (fun _ _ _ h => h) (Or.inl ⟨by rfl, ?_⟩) ?_ ?_
  rotate_left
  · intro w'
    go_simp
    with_reducible rfl
  rotate_left
  · simp only [Act.put, List.setIfInBounds_toArray, List.set_cons_zero, List.set_cons_succ, i64_w, i32_w]
    rfl
  refine pure_ (i := 4) (N := some 18) (v := ?_) (a' := ?_) #[true, true, true, true, true, false, false, true, false, false, false, false, false, false] rfl rfl (by kernel_rfl) (fun _ _ _ h => h) (Or.inl ⟨by rfl, ?_⟩) ?_ ?_
  rotate_left
  · intro w'
    go_simp
    with_reducible rfl
  rotate_left
  · simp only [Act.put, List.setIfInBounds_toArray, List.set_cons_zero, List.set_cons_succ, i64_w, i32_w]
    rfl
  refine pure_ (i := 5) (N := some 19) (v := ?_) (a' := ?_) #[true, true, true, true, true, true, false, true, false, false, false, false, false, false] rfl rfl (by kernel_rfl) (fun _ _ _ h => h) (Or.inl ⟨by rfl, ?_⟩) ?_ ?_
  rotate_left
  · intro w'
    go_simp
    with_reducible rfl
  rotate_left
  · simp only [Act.put, List.setIfInBounds_toArray, List.set_cons_zero, List.set_cons_succ, i64_w, i32_w]
    rfl
  refine take_ (i := 6) (N := some 20) (v := ?_) (a' := ?_) #[true, true, true, true, true, true, true, true, false, false, false, false, false, false] rfl rfl (by kernel_rfl) (fun _ _ _ h => h) (Or.inl ⟨by rfl, ?_⟩) hHeld ?_ ?_
  rotate_left
  · rintro w' ⟨s0, s1, s2, s3⟩
    go_simp
    with_reducible rfl
  rotate_left
  · simp only [Act.put, List.setIfInBounds_toArray, List.set_cons_zero, List.set_cons_succ, i64_w, i32_w]
    rfl
  refine pure_ (i := 8) (N := some 22) (v := ?_) (a' := ?_) #[true, true, true, true, true, true, true, true, true, false, false, false, false, false] rfl rfl (by kernel_rfl) (fun _ _ _ h => h) (Or.inl ⟨by rfl, ?_⟩) ?_ ?_
  rotate_left
  · intro w'
    go_simp
    with_reducible rfl
  rotate_left
  · simp only [Act.put, List.setIfInBounds_toArray, List.set_cons_zero, List.set_cons_succ, i64_w, i32_w]
    rfl
  refine pure_ (i := 9) (N := some 23) (v := ?_) (a' := ?_) #[true, true, true, true, true, true, true, true, true, true, false, false, false, false] rfl rfl (by kernel_rfl) (fun _ _ _ h => h) (Or.inl ⟨by rfl, ?_⟩) ?_ ?_
  rotate_left
  · intro w'
    go_simp
    with_reducible rfl
  rotate_left
  · simp only [Act.put, List.setIfInBounds_toArray, List.set_cons_zero, List.set_cons_succ, i64_w, i32_w]
    rfl
  refine take_ (i := 10) (N := some 24) (v := ?_) (a' := ?_) #[true, true, true, true, true, true, true, true, true, true, true, false, false, false] rfl rfl (by kernel_rfl) (fun _ _ _ h => h) (Or.inl ⟨by rfl, ?_⟩) hHeld ?_ ?_
  rotate_left
  · rintro w' ⟨s0, s1, s2, s3⟩
    go_simp
    with_reducible rfl
  rotate_left
  · simp only [Act.put, List.setIfInBounds_toArray, List.set_cons_zero, List.set_cons_succ, i64_w, i32_w]
    rfl
  refine pure_ (i := 11) (N := some 25) (v := ?_) (a' := ?_) #[true, true, true, true, true, true, true, true, true, true, true, true, false, false] rfl rfl (by kernel_rfl) (fun _ _ _ h => h) (Or.inl ⟨by rfl, ?_⟩) ?_ ?_
  rotate_left
  · intro w'
    go_simp
    with_reducible rfl
  rotate_left
  · simp only [Act.put, List.setIfInBounds_toArray, List.set_cons_zero, List.set_cons_succ, i64_w, i32_w]
    rfl
  refine pure_ (i := 12) (N := some 26) (v := ?_) (a' := ?_) #[true, true, true, true, true, true, true, true, true, true, true, true, true, false] rfl rfl (by kernel_rfl) (fun _ _ _ h => h) (Or.inl ⟨by rfl, ?_⟩) ?_ ?_
  rotate_left
  · intro w'
    go_simp
    with_reducible rfl
  rotate_left
  · simp only [Act.put, List.setIfInBounds_toArray, List.set_cons_zero, List.set_cons_succ, i64_w, i32_w]
    rfl
  refine pure_ (i := 13) (N := some 27) (v := ?_) (a' := ?_) #[true, true, true, true, true, true, true, true, true, true, true, true, true, true] rfl rfl (by kernel_rfl) (fun _ _ _ h => h) (Or.inl ⟨by rfl, ?_⟩) ?_ ?_
  rotate_left
  · intro w'
    go_simp
    with_reducible rfl
  rotate_left
  · simp only [Act.put, List.setIfInBounds_toArray, List.set_cons_zero, List.set_cons_succ, i64_w, i32_w]
    rfl
  refine done_ (by kernel_rfl) ?_
  have e : wrap64 (262144 - (x.f1.size : Int)) = 262144 - (x.f1.size : Int) := by unfold wrap64; omega
  rw [e]
  clear e
  by_cases h : 262144 - (x.f1.size : Int) < (data.size : Int)
  · have HE : Aside0 (R = 8) := ⟨by rw [HR.out, if_pos h]⟩
    have hd : decide (262144 - (x.f1.size : Int) < (data.size : Int)) = true := by simpa using h
    rw [hd]
    clear h hd
    go_wp2
    go_ret
    exact ⟨by rw [HE.out]; rfl, below_drew (Below.refl _ _)⟩
  · have HE : Aside0 (R = 0) := ⟨by rw [HR.out, if_neg h]⟩
    have hd : decide (262144 - (x.f1.size : Int) < (data.size : Int)) = false := by simpa using h
    rw [hd]
    clear h hd
    go_wp2
    go_ret
    exact ⟨by rw [HE.out]; rfl, below_drew (Below.refl _ _)⟩
theorem write_unknown (w : World) (v2 v1 : Value) (data : ByteArray) (l : List S67) (i : Int) :
    Calls Tryz.prog 175 #[.int .i64 i, .bool false, v2, v1] w fun e w' => e = .returned (.int .i64 (rfW data l i false)) ∧ w = w' := by
  go_enter Tryz.func175, Tryz.ntmps175
  go_wp2_with (go_at_call 160; refine (there_any _ _ _).mono ?_; rintro e w' ⟨rfl, rfl⟩)
  go_ret
  exact ⟨rfl, rfl⟩
set_option maxHeartbeats 4000000 in
set_option maxRecDepth 100000 in
theorem write_do (gp b1 b2 : Nat) (w : World) (base : Nat) (l : List S67) (data : ByteArray) (A : Option Addr) (c : Nat) (dn : Bool) (fu fa : Int) (i : Nat) (x : S67) (hx : l[i]? = some x) (hsum : x.f1.size + data.size ≤ 262144) (hb1 : w.heap[b1]? = some (.cells #[.pointer (some ⟨gp, 0, none⟩)] 176 (0, 0)))
    (hb2 : w.heap[b2]? = some (.cells #[.string data] 9 (0, 0))) (hp : Plate w base gp (.slice A l.length c) l dn fu fa) :
    Calls Tryz.prog 176 #[.int .i64 (i : Int), .pointer (some ⟨b1, 0, none⟩), .pointer (some ⟨b2, 0, none⟩)] w (Done w base gp dn fu fa (l.set i ⟨x.f0, x.f1 ++ data, x.f2⟩)) := by
  obtain ⟨hp, ho⟩ := hp
  have hlt : i < l.length := (List.getElem?_eq_some_iff.1 hx).1
  obtain ⟨g, cur, rfl, _, hg, hh, h3, h4, h5, h6⟩ := R_block ho (by omega)
  obtain ⟨e0, e1, e2⟩ := cellsOf_get l i x hx
  have s1 : w.cell? ⟨b1, 0, none⟩ = some (.pointer (some ⟨gp, 0, none⟩)) := (blk_cell hb1 0).trans rfl
  have s2 : w.cell? ⟨gp, 0, none⟩ = some (.slice (some ⟨g, 0, none⟩) l.length c) := (blk_cell hp 0).trans rfl
  have s3 : w.cell? ⟨b2, 0, none⟩ = some (.string data) := (blk_cell hb2 0).trans rfl
  have s4 : w.cell? ⟨g, i * 3 + 1, none⟩ = some (.string x.f1) := R_cell hh h6 e1
  have s5 := blk_frozen hh (i * 3 + 1)
  have ngp : g ≠ gp := other_block hh hp (by decide)
  have HX := Aside0.mk hx
  have HO := Aside0.mk ho
  have HP := Aside0.mk hp
  have HH := Aside0.mk hh
  have NGP := Aside0.mk ngp
  have HG := Aside0.mk hg
  have hi0 : (0 : Int) ≤ (i : Int) := by omega
  have hi1 : (i : Int) < (l.length : Int) := by omega
  have hs9 : (x.f1.size : Int) + (data.size : Int) ≤ 9223372036854775807 := by omega
  have hs8 : ¬ 9223372036854775807 < x.f1.size + data.size := by omega
  clear hx ho hp hh ngp h3 h4 h5 h6 e0 e1 e2 hb1 hg hb2
  go_enter Tryz.func176, Tryz.ntmps176
  go_wp2
  refine start_ (n := 14) (S := fun w' => w'.cell? ⟨b1, 0, none⟩ = some (.pointer (some ⟨gp, 0, none⟩)) ∧ w'.cell? ⟨b2, 0, none⟩ = some (.string data) ∧ w'.cell? ⟨gp, 0, none⟩ = some (.slice (some ⟨g, 0, none⟩) l.length c) ∧ w'.cell? ⟨g, i * 3 + 1, none⟩ = some (.string x.f1)) (ds := [13]) #[false, false, false, false, false, false, false, false, false, false, false, false, false, false] (by kernel_rfl) rfl rfl ⟨s1, s3, s2, s4⟩ (fun hHeld => ?_)
  refine pure_ (i := 5) (N := some 9) (v := ?_) (a' := ?_) #[false, false, false, false, false, true, false, false, false, false, false, false, false, false] rfl rfl (by kernel_rfl) (fun _ _ _ h => h) (Or.inl ⟨by rfl, ?_⟩) ?_ ?_
  rotate_left
  · intro w'
    go_simp
    with_reducible rfl
  rotate_left
  · simp only [Act.put, List.setIfInBounds_toArray, List.set_cons_zero, List.set_cons_succ, i64_w, i32_w]
    rfl
  refine take_ (i := 0) (N := some 4) (v := ?_) (a' := ?_) #[true, false, false, false, false, true, false, false, false, false, false, false, false, false] rfl rfl (by kernel_rfl) (fun _ _ _ h => h) (Or.inl ⟨by rfl, ?_⟩) hHeld ?_ ?_
  rotate_left
  · rintro w' ⟨s0, s1, s2, s3⟩
    go_simp
    with_reducible rfl
  rotate_left
  · simp only [Act.put, List.setIfInBounds_toArray, List.set_cons_zero, List.set_cons_succ, i64_w, i32_w]
    rfl
  refine pure_ (i := 1) (N := some 5) (v := ?_) (a' := ?_) #[true, true, false, false, false, true, false, false, false, false, false, false, false, false] rfl rfl (by kernel_rfl) (fun _ _ _ h => h) (Or.inl ⟨by rfl, ?_⟩) ?_ ?_
  rotate_left
  · intro w'
    go_simp
    with_reducible rfl
  rotate_left
  · simp only [Act.put, List.setIfInBounds_toArray, List.set_cons_zero, List.set_cons_succ, i64_w, i32_w]
    rfl
  refine pure_ (i := 2) (N := some 6) (v := ?_) (a' := ?_) #[true, true, true, false, false, true, false, false, false, false, false, false, false, false] rfl rfl (by kernel_rfl) (fun _ _ _ h => h) (Or.inl ⟨by rfl, ?_⟩) ?_ ?_
  rotate_left
  · intro w'
    go_simp
    with_reducible rfl
  rotate_left
  · simp only [Act.put, List.setIfInBounds_toArray, List.set_cons_zero, List.set_cons_succ, i64_w, i32_w]
    rfl
  refine pure_ (i := 3) (N := some 7) (v := ?_) (a' := ?_) #[true, true, true, true, false, true, false, false, false, false, false, false, false, false] rfl rfl (by kernel_rfl) (fun _ _ _ h => h) (Or.inl ⟨by rfl, ?_⟩) ?_ ?_
  rotate_left
  · intro w'
    go_simp
    with_reducible rfl
  rotate_left
  · simp only [Act.put, List.setIfInBounds_toArray, List.set_cons_zero, List.set_cons_succ, i64_w, i32_w]
    rfl
  refine take_ (i := 4) (N := some 8) (v := ?_) (a' := ?_) #[true, true, true, true, true, true, false, false, false, false, false, false, false, false] rfl rfl (by kernel_rfl) (fun _ _ _ h => h) (Or.inl ⟨by rfl, ?_⟩) hHeld ?_ ?_
  rotate_left
  · rintro w' ⟨s0, s1, s2, s3⟩
    go_simp
    with_reducible rfl
  rotate_left
  · simp only [Act.put, List.setIfInBounds_toArray, List.set_cons_zero, List.set_cons_succ, i64_w, i32_w]
    rfl
  refine pure_ (i := 6) (N := some 10) (v := ?_) (a' := ?_) #[true, true, true, true, true, true, true, false, false, false, false, false, false, false] rfl rfl (by kernel_rfl) (fun _ _ _ h => h) (Or.inl ⟨by rfl, ?_⟩) ?_ ?_
  rotate_left
  · intro w'
    go_simp
    with_reducible rfl
  rotate_left
  · simp only [Act.put, List.setIfInBounds_toArray, List.set_cons_zero, List.set_cons_succ, i64_w, i32_w]
    rfl
  refine pure_ (i := 7) (N := some 11) (v := ?_) (a' := ?_) #[true, true, true, true, true, true, true, true, false, false, false, false, false, false] rfl rfl (by kernel_rfl) (fun _ _ _ h => h) (Or.inl ⟨by rfl, ?_⟩) ?_ ?_
  rotate_left
  · intro w'
    go_simp
    with_reducible rfl
  rotate_left
  · simp only [Act.put, List.setIfInBounds_toArray, List.set_cons_zero, List.set_cons_succ, i64_w, i32_w]
    rfl
  refine take_ (i := 8) (N := some 12) (v := ?_) (a' := ?_) #[true, true, true, true, true, true, true, true, true, false, false, false, false, false] rfl rfl (by kernel_rfl) (fun _ _ _ h => h) (Or.inl ⟨by rfl, ?_⟩) hHeld ?_ ?_
  rotate_left
  · rintro w' ⟨s0, s1, s2, s3⟩
    go_simp
    with_reducible rfl
  rotate_left
  · simp only [Act.put, List.setIfInBounds_toArray, List.set_cons_zero, List.set_cons_succ, i64_w, i32_w]
    rfl
  refine take_ (i := 9) (N := some 13) (v := ?_) (a' := ?_) #[true, true, true, true, true, true, true, true, true, true, false, false, false, false] rfl rfl (by kernel_rfl) (fun _ _ _ h => h) (Or.inl ⟨by rfl, ?_⟩) hHeld ?_ ?_
  rotate_left
  · rintro w' ⟨s0, s1, s2, s3⟩
    go_simp
    with_reducible rfl
  rotate_left
  · simp only [Act.put, List.setIfInBounds_toArray, List.set_cons_zero, List.set_cons_succ, i64_w, i32_w]
    rfl
  refine pure_ (i := 10) (N := some 14) (v := ?_) (a' := ?_) #[true, true, true, true, true, true, true, true, true, true, true, false, false, false] rfl rfl (by kernel_rfl) (fun _ _ _ h => h) (Or.inl ⟨by rfl, ?_⟩) ?_ ?_
  rotate_left
  · intro w'
    go_simp
    with_reducible rfl
  rotate_left
  · simp only [Act.put, List.setIfInBounds_toArray, List.set_cons_zero, List.set_cons_succ, i64_w, i32_w]
    rfl
  refine pure_ (i := 11) (N := some 15) (v := ?_) (a' := ?_) #[true, true, true, true, true, true, true, true, true, true, true, true, false, false] rfl rfl (by kernel_rfl) (fun _ _ _ h => h) (Or.inl ⟨by rfl, ?_⟩) ?_ ?_
  rotate_left
  · intro w'
    go_simp
    with_reducible rfl
  rotate_left
  · simp only [Act.put, List.setIfInBounds_toArray, List.set_cons_zero, List.set_cons_succ, i64_w, i32_w]
    rfl
  refine pure_ (i := 12) (N := some 16) (v := ?_) (a' := ?_) #[true, true, true, true, true, true, true, true, true, true, true, true, true, false] rfl rfl (by kernel_rfl) (fun _ _ _ h => h) (Or.inl ⟨by rfl, ?_⟩) ?_ ?_
  rotate_left
  · intro w'
    go_simp
    with_reducible rfl
  rotate_left
  · simp only [Act.put, List.setIfInBounds_toArray, List.set_cons_zero, List.set_cons_succ, i64_w, i32_w]
    rfl
  refine last_ (i := 13) (N := none) #[true, true, true, true, true, true, true, true, true, true, true, true, true, true] rfl rfl (by kernel_rfl) (by decide) (fun K hK => ?_)
  refine skip_ (w1 := ?_) (by rfl) rfl ?_ ?_
  rotate_left
  · go_simp
    rfl
  refine hK.out _ _ ?_
  clear hK K
  refine done_ (by kernel_rfl) ?_
  go_end0
  refine ⟨rfl, .slice (some ⟨g, 0, none⟩) l.length c, blk_drew (blk_far (p := ⟨g, i * 3 + 1, none⟩) HP.out (fun e => NGP.out e.symm) _), ?_, below_drew ((Below.refl base w).setCell HG.out _), fun k cs h => blk_drew (blk_far (p := ⟨g, i * 3 + 1, none⟩) h (other_block h HH.out (by decide)) _)⟩
  have h := R_put (u := .string (x.f1 ++ data)) HO.out (l' := l.set i ⟨x.f0, x.f1 ++ data, x.f2⟩) (by rw [List.length_set]) (cellsOf_set1 l i x _ HX.out) (j := i * 3 + 1) (by omega)
  rw [List.length_set] at h
  exact h
set_option maxHeartbeats 4000000 in
set_option maxRecDepth 100000 in
theorem write_inner (W w1 : World) (gp : Nat) (v : Value) (l : List S67) (dn : Bool) (fu fa : Int) (data : ByteArray) (sd : Int → List S67) (hsd : ∀ (i : Nat) (x : S67), l[i]? = some x → x.f1.size + data.size ≤ 262144 → sd (i : Int) = l.set i ⟨x.f0, x.f1 ++ data, x.f2⟩) (hb : Below W.heap.size W w1) (hgp : W.heap.size ≤ gp) (hp : w1.heap[gp]? = some (.cells #[v, .bool dn, .int .i64 fu, .int .i64 fa] 211 (0, 0)))
    (ho : Kd.R k67 67 w1 W.heap.size (fun _ => True) v l) (hok : rightF l = true) :
    Calls Tryz.prog 129 #[.pointer (some ⟨gp, 0, none⟩), .string data] w1 fun e w2 => ∃ rv dv : Value, e = .returned (.agg #[rv, dv, .bool true]) ∧ Below w1.heap.size w1 w2 ∧ RefV w2 rv l.length (rfW data l) ∧ DoV W.heap.size gp w2 dv v l (rfW data l) sd := by
  obtain ⟨A, c, rfl⟩ := Kd.R_slice ho
  have hlt : gp < w1.heap.size := blk_lt hp
  have hle : l.length ≤ 64 := by
    simp only [rightF, Bool.and_eq_true, decide_eq_true_eq] at hok
    exact hok.2
  go_enter Tryz.func129, Tryz.ntmps129
  go_wp2
  refine bodyPost_ret (results_cell_row rfl _ _ (w1.heap.size + 2) 179 #[.func (.func 175) #[] #[.pointer (some ⟨w1.heap.size + 1, 0, none⟩), .pointer (some ⟨w1.heap.size, 0, none⟩)], .func (.func 176) #[] #[.pointer (some ⟨w1.heap.size, 0, none⟩), .pointer (some ⟨w1.heap.size + 1, 0, none⟩)], .bool true] (0, 0) _ rfl (new33 w1 _ _ _) Tryz.underlying179 rfl (by kernel_rfl)) rfl ?_
  refine ⟨_, _, rfl, below_alloc (below_alloc (below_alloc (Below.refl _ _) _) _) _, ⟨175, _, rfl, enters48, fun w3 i b hb3 hil hib => ?_⟩, 176, _, rfl, enters50, fun w3 i b dn fu fa hk hil hib hrf hp3 ho3 => ?_⟩
  · refine calls_of_args (args' := #[.int .i64 (i : Int), .bool b, .pointer (some ⟨w1.heap.size + 1, 0, none⟩), .pointer (some ⟨w1.heap.size, 0, none⟩)]) (by simp) ?_
    have hbb1 := hb3 _ _ _ (by decide) (by decide) (by simp) (new31 w1 _ _ _)
    have hbb2 := hb3 _ _ _ (by decide) (by decide) (by simp) (new32 w1 _ _ _)
    have hpp := hb3 _ _ _ (by decide) (by decide) (by simp) (blk_alloc (blk_alloc (blk_alloc hp _) _) _)
    cases b with
    | false =>
      refine (write_unknown w3 _ _ data l i).mono ?_
      rintro e w4 ⟨rfl, rfl⟩
      exact ⟨rfl, Below.refl _ _⟩
    | true =>
      obtain ⟨x, hx⟩ := get_of_lt (hib rfl)
      obtain ⟨g, cur, rfl, _, hg, hh, h3, h4, h5, h6⟩ := R_block ho (by have := hib rfl; omega)
      exact write_refuse w3 gp w1.heap.size (w1.heap.size + 1) g cur data l c i x hx (right_get hok hx).2.1 hle ((blk_cell hbb2 0).trans rfl) ((blk_cell hbb1 0).trans rfl) ((blk_cell hpp 0).trans rfl) (hb3 _ _ _ (by decide) (by decide) (by simp) (blk_alloc (blk_alloc (blk_alloc hh _) _) _)) h6
  · refine calls_of_args (args' := #[.int .i64 (i : Int), .pointer (some ⟨w1.heap.size, 0, none⟩), .pointer (some ⟨w1.heap.size + 1, 0, none⟩)]) (by simp) ?_
    have hbb1 := hk _ _ _ (by decide) (by decide) (fun h => by injection h with h; omega) (new31 w1 _ _ _)
    have hbb2 := hk _ _ _ (by decide) (by decide) (fun h => by injection h with h; omega) (new32 w1 _ _ _)
    have hsz : W.heap.size ≤ w3.heap.size := by have := blk_lt hp3; omega
    have hbt : b = true := by
      cases b
      · simp [rfW] at hrf
      · rfl
    subst hbt
    obtain ⟨x, hx⟩ := get_of_lt (hib rfl)
    have hsum : x.f1.size + data.size ≤ 262144 := by
      rw [rfW, if_pos rfl, rd_get hx] at hrf
      split at hrf
      · cases hrf
      · have := (right_get hok hx).2.1
        omega
    refine (write_do gp w1.heap.size (w1.heap.size + 1) w3 W.heap.size l data A c dn fu fa i x hx hsum hbb1 hbb2 ⟨hp3, ho3⟩).mono fun e w4 h => ?_
    rw [hsd i x hx hsum]
    exact h
set_option maxHeartbeats 4000000 in
set_option maxRecDepth 100000 in
theorem write_of (W : World) (nb : Nat) (l : List S67) (dn : Bool) (fu fa : Int) (data : ByteArray) (sd : Int → List S67) (hsd : ∀ (i : Nat) (x : S67), l[i]? = some x → x.f1.size + data.size ≤ 262144 → sd (i : Int) = l.set i ⟨x.f0, x.f1 ++ data, x.f2⟩) (hnb : W.heap[nb]? = some (.cells #[.string data] 9 (0, 0))) :
    OfV W 128 #[.pointer (some ⟨nb, 0, none⟩)] l dn fu fa true (rfW data l) sd := by
  intro w1 gp v hb hgp hp ho hok
  have hc := (blk_cell (blk_below hnb hb) 0).trans rfl
  refine calls_of_args (args' := #[.pointer (some ⟨gp, 0, none⟩), .pointer (some ⟨nb, 0, none⟩)]) (by simp) ?_
  have HB := Aside0.mk hb
  have HGP := Aside0.mk hgp
  have HP := Aside0.mk hp
  have HO := Aside0.mk ho
  have HOK := Aside0.mk hok
  clear hb hgp hp ho hok hnb
  go_enter Tryz.func128, Tryz.ntmps128
  go_wp2_with (first
    | ((with_reducible refine gate_dst (N := 3) rfl ?_);
        refine box_event ?hg (N := 3) ?hd (cs := #[.nilFunc, .nilFunc, .bool false]) (t := 179) ?hr ?_;
        (case hd => rfl); (case hg => rfl); (case hr => first | (go_simp; done) | (go_simp; rfl));
        intro g3 hg w2 hbox hb2;
        have N3 := Aside0.mk (show w1.heap.size ≤ g3 by rw [hg]; exact Nat.le_refl _);
        have hc2 := (hb2.cell (World.block_lt_of_cell? w1 _ hc)).trans hc;
        have HB2 := Aside0.mk hb2; have BK3 := Aside0.mk hbox; clear hg hbox hb2 hc)
    | fail)
  refine ((write_inner W _ gp v l dn fu fa data sd hsd (below_step HB.out HB2.out) HGP.out (blk_below HP.out HB2.out) (Kd.R_below HO.out HB2.out) HOK.out).mono ?_)
  rintro e w4 ⟨rv, dv, rfl, hb4, ⟨Kr, cr, rfl, hKr, hrf⟩, ⟨Kd_, cd, rfl, hKd, hdo⟩⟩
  have HKr := Aside0.mk hKr
  have Hrf := Aside0.mk hrf
  have HKd := Aside0.mk hKd
  have Hdo := Aside0.mk hdo
  have HB4 := Aside0.mk hb4
  have bk := blk_below BK3.out hb4
  have c0 := (blk_cell bk 0).trans rfl
  have c1 := (blk_cell bk 1).trans rfl
  have c2 := (blk_cell bk 2).trans rfl
  have f0 := blk_frozen bk 0
  have f1 := blk_frozen bk 1
  have f2 := blk_frozen bk 2
  have BK4 := Aside0.mk bk
  clear hKr hrf hKd hdo hb4 bk
  go_wp2
  refine bodyPost_ret (results_cell_row rfl _ _ g3 179 #[.func (.func Kr) #[] cr, .func (.func Kd_) #[] cd, .bool true] (0, 0) _ rfl (put3 BK4.out _ _ _) Tryz.underlying179 rfl (by kernel_rfl)) rfl ?_
  have hw4 : Below w1.heap.size w1 w4 := below_step HB2.out HB4.out
  have hgg : ∀ (k : Nat), k ≠ g3 → (((w4.setCell ⟨g3, 0, none⟩ (.func (.func Kr) #[] cr)).setCell ⟨g3, 1, none⟩ (.func (.func Kd_) #[] cd)).setCell ⟨g3, 2, none⟩ (.bool true)).heap[k]? = w4.heap[k]? := fun k hk =>
    ((Below.heap_setCell _ ⟨g3, 2, none⟩ _ k hk).trans (Below.heap_setCell _ ⟨g3, 1, none⟩ _ k hk)).trans (Below.heap_setCell _ ⟨g3, 0, none⟩ _ k hk)
  refine ⟨_, _, rfl, below3 hw4 N3.out _ _ _, ⟨Kr, cr, rfl, HKr.out, ?_⟩, Kd_, cd, rfl, HKd.out, ?_⟩
  · intro w5 i b hk hil hib
    refine Hrf.out w5 i b (fun k cs t h1 h2 h3 h4 => hk k cs t h1 h2 h3 ?_) hil hib
    rw [hgg k (fun e => by subst e; exact absurd h4 (ne63 BK4.out h1))]
    exact h4
  · intro w5 i b dn fu fa hk
    refine Hdo.out w5 i b dn fu fa (fun k cs t h1 h2 h3 h4 => hk k cs t h1 h2 h3 ?_)
    rw [hgg k (fun e => by subst e; exact absurd h4 (ne63 BK4.out h1))]
    exact h4
end Go.Proofs.YtanonhipicoigaaGreatDoor.U
