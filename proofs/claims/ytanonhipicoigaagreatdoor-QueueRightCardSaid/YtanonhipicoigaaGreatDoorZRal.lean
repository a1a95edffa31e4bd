import Derived.Test.YtanonhipicoigaaGreatDoorZRai
import Derived.Test.YtanonhipicoigaaGreatDoorZRak
import Derived.RangeFuncNested
import Derived.RangeFuncLeaves
import Derived.RangeFuncCalls
import Derived.Shelf.Strings.Builder1
import Derived.Shelf.Strings.Builder2
import Derived.Shelf.LaysM
import Derived.Shelf.LaysC
import Derived.Shelf.Strconv.Clone
import Derived.Shelf.Strconv.SyntaxError
import Derived.Shelf.Strconv.ToError
import Derived.Shelf.Strconv.Lower
import Derived.Shelf.Strconv.RangeError
import Derived.Shelf.Strconv.ToErrorRange
import Derived.Shelf.Bits.Mul64
import Derived.Shelf.Strings.Repeat
import Derived.Lib.Repeat
import Derived.TacticsIn
import Derived.TacticsInMore
import Derived.Recover
import Derived.Defers
import Derived.Laws.Pointers
import Derived.Test.YtanonhipicoigaaGreatDoorZRag
set_option linter.unusedVariables false
set_option linter.unusedSimpArgs false
set_option maxRecDepth 100000
namespace Go.Proofs.gB
open Go.Proofs.U
def bl : List UInt8 → List UInt8 → Bool
 | _, [] => false
 | [], _ :: _ => true
 | x :: r, y :: s => decide (x < y) || (x == y && bl r s)
def F5 (d : Nat) : UInt8 := UInt8.ofNat (if d < 10 then 48 + d else 87 + d)
def hexN : Nat → Nat → List UInt8
 | 0, _ => []
 | k + 1, n => F5 (n / 16 ^ k % 16) :: hexN k (n % 16 ^ k)
theorem oQ : ∀ k n, (hexN k n).length = k
 | 0, _ => rfl
 | k + 1, n => by simp [hexN, oQ k]
theorem I8 {d : Nat} (h : d < 16) : (F5 d).toNat = if d < 10 then 48 + d else 87 + d := by
 unfold F5
 split <;> simp [UInt8.toNat_ofNat'] <;> omega
theorem qbZ {a b : Nat} (hb : b < 16) (h : a < b) : F5 a < F5 b := by
 rw [UInt8.lt_iff_toNat_lt, I8 hb, I8 (by omega)]
 split <;> split <;> omega
theorem GY : ∀ (k a b : Nat), b < 16 ^ k → a < b → bl (hexN k a) (hexN k b) = true
 | 0, a, b, hb, h => by simp at hb; omega
 | k + 1, a, b, hb, h => by
  have hp : 0 < 16 ^ k := Nat.pow_pos (by decide)
  have hb' : b / 16 ^ k < 16 := by rw [Nat.div_lt_iff_lt_mul hp]; rw [Nat.pow_succ] at hb; omega
  have hle : a / 16 ^ k ≤ b / 16 ^ k := Nat.div_le_div_right (by omega)
  have hda := Nat.div_add_mod a (16 ^ k)
  have hdb := Nat.div_add_mod b (16 ^ k)
  have hma := Nat.mod_lt a hp
  have hmb := Nat.mod_lt b hp
  simp only [hexN, bl, Bool.or_eq_true, Bool.and_eq_true, decide_eq_true_eq, beq_iff_eq]
  rw [Nat.mod_eq_of_lt hb', Nat.mod_eq_of_lt (show a / 16 ^ k < 16 by omega)]
  rcases Nat.lt_or_ge (a / 16 ^ k) (b / 16 ^ k) with g | g
  ·exact .inl (qbZ hb' g)
  ·have e : a / 16 ^ k = b / 16 ^ k := by omega
   refine .inr ⟨by rw [e], GY k _ _ hmb ?_⟩
   rw [e] at hda
   omega
theorem qaT {k a b : Nat} (ha : a < 16 ^ k) (hb : b < 16 ^ k) (h : hexN k a = hexN k b) : a = b := by
 have irr : ∀ l, bl l l = false := by
  intro l
  induction l with
  | nil => rfl
  | cons x r ih => simp [bl, ih]
 rcases Nat.lt_trichotomy a b with g | g | g
 ·have := GY k a b hb g; rw [h, irr] at this; cases this
 ·exact g
 ·have := GY k b a ha g; rw [h, irr] at this; cases this
abbrev Bytes := List UInt8
def wQ (n : Nat) : Nat → Bytes
 | 0 => []
 | k + 1 => UInt8.ofNat n :: wQ (n / 256) k
theorem oU : ∀ k n, (wQ n k).length = k
 | 0, _ => rfl
 | k + 1, n => by simp [wQ, oU k]
def wR : Bytes → Nat
 | [] => 0
 | b :: r => b.toNat + 256 * wR r
theorem LD : ∀ k n, n < 256 ^ k → wR (wQ n k) = n
 | 0, n, h => by simp at h; simp [wQ, wR, h]
 | k + 1, n, h => by
  have h' : n / 256 < 256 ^ k := by rw [Nat.div_lt_iff_lt_mul (by decide)]; rw [Nat.pow_succ] at h; exact h
  simp only [wQ, wR, LD k _ h', UInt8.toNat_ofNat']
  omega
structure Sum where
 f : Nat → Bytes → Bytes
 four : ∀ n d, (f n d).length = 4
def frame (S : Sum) (n : Nat) (d : Bytes) : Bytes := wQ d.length 4 ++ (wQ n 8 ++ (S.f n d ++ d))
theorem iL (S : Sum) (n : Nat) (d : Bytes) : (frame S n d).length = 16 + d.length := by
 simp [frame, oU, S.four]; omega
def most : Nat := 4611686018427387904
def KP : Nat := 65536
def first (S : Sum) (l : Bytes) (n : Nat) : Option Bytes :=
 if 16 ≤ l.length ∧ n < most ∧ wR (l.take 4) ≤ KP ∧ wR (l.take 4) ≤ l.length - 16 ∧ l.take (16 + wR (l.take 4)) = frame S n ((l.drop 16).take (wR (l.take 4))) then some ((l.drop 16).take (wR (l.take 4))) else none
theorem first_some {S : Sum} {l : Bytes} {n : Nat} {d : Bytes} (h : first S l n = some d) : ∃ r, l = frame S n d ++ r ∧ d.length ≤ KP ∧ n < most := by
 unfold first at h
 split at h
 case isFalse => cases h
 rename_i hc
 obtain ⟨h1, h2, h3, h4, h5⟩ := hc
 injection h with h
 subst h
 refine ⟨l.drop (16 + wR (l.take 4)), ?_, ?_, h2⟩
 ·rw [← h5, List.take_append_drop]
 ·simp only [List.length_take, List.length_drop]; omega
theorem QF (S : Sum) {n : Nat} {d r : Bytes} (hd : d.length ≤ KP) (hn : n < most) : first S (frame S n d ++ r) n = some d := by
 have hl := iL S n d
 have h4 : (frame S n d ++ r).take 4 = wQ d.length 4 := by
  rw [frame, List.append_assoc]
  rw [List.take_append_of_le_length (by rw [oU]; omega), List.take_of_length_le (by rw [oU]; omega)]
 have hnum : wR ((frame S n d ++ r).take 4) = d.length := by
  rw [h4, LD]; unfold KP at hd; omega
 have hdr : ((frame S n d ++ r).drop 16).take d.length = d := by
  have e : frame S n d = (wQ d.length 4 ++ wQ n 8 ++ S.f n d) ++ d := by simp [frame]
  have e16 : (wQ d.length 4 ++ wQ n 8 ++ S.f n d).length = 16 := by simp [oU, S.four]
  rw [e, List.append_assoc, List.drop_append_of_le_length (by omega), List.drop_of_length_le (by omega)]
  simp
 unfold first
 rw [hnum, hdr, if_pos]
 refine ⟨?_, hn, hd, ?_, ?_⟩
 ·rw [List.length_append, hl]; omega
 ·rw [List.length_append, hl]; omega
 ·rw [List.take_append_of_le_length (by omega), List.take_of_length_le (by omega)]
def yN (S : Sum) : Nat → Bytes → Nat → List Bytes × Nat
 | 0, _, _ => ([], 0)
 | k + 1, l, n => match first S l n with
  | none => ([], 0)
  | some d => (d :: (yN S k (l.drop (16 + d.length)) (n + 1)).1, 16 + d.length + (yN S k (l.drop (16 + d.length)) (n + 1)).2)
def fG (S : Sum) : Nat → List Bytes → Bytes
 | _, [] => []
 | n, d :: r => frame S n d ++ fG S (n + 1) r
theorem wS (S : Sum) : ∀ (n : Nat) (a b : List Bytes), fG S n (a ++ b) = fG S n a ++ fG S (n + a.length) b
 | n, [], b => by simp [fG]
 | n, d :: a, b => by simp [fG, wS S (n + 1) a b, Nat.add_assoc, Nat.add_comm 1]
theorem I9 (S : Sum) : ∀ (k k' : Nat) (l : Bytes) (n : Nat), l.length ≤ k → l.length ≤ k' → yN S k l n = yN S k' l n
 | 0, 0, _, _, _, _ => rfl
 | 0, k' + 1, l, n, h, _ => by
  have e : first S l n = none := by unfold first; rw [if_neg]; omega
  simp [yN, e]
 | k + 1, 0, l, n, _, h => by
  have e : first S l n = none := by unfold first; rw [if_neg]; omega
  simp [yN, e]
 | k + 1, k' + 1, l, n, h, h' => by
  unfold yN
  cases e : first S l n with
  | none => rfl
  | some d =>
   have := I9 S k k' (l.drop (16 + d.length)) (n + 1) (by rw [List.length_drop]; omega) (by rw [List.length_drop]; omega)
   simp only [this]
def readB (S : Sum) (l : Bytes) (n : Nat) : List Bytes × Nat := yN S l.length l n
theorem JA {S : Sum} {l : Bytes} {n : Nat} (h : first S l n = none) : readB S l n = ([], 0) := by
 unfold readB
 cases l with
 | nil => rfl
 | cons x r => simp [yN, h]
theorem JB {S : Sum} {l : Bytes} {n : Nat} {d : Bytes} (h : first S l n = some d) :
  readB S l n = (d :: (readB S (l.drop (16 + d.length)) (n + 1)).1, 16 + d.length + (readB S (l.drop (16 + d.length)) (n + 1)).2) := by
 unfold readB
 obtain ⟨r, e, _⟩ := first_some h
 have hl : 16 ≤ l.length := by rw [e, List.length_append, iL]; omega
 obtain ⟨k, hk⟩ : ∃ k, l.length = k + 1 := ⟨l.length - 1, by omega⟩
 rw [hk, yN, h]
 simp only
 rw [I9 S k (l.drop (16 + d.length)).length _ _ (by rw [List.length_drop]; omega) (Nat.le_refl _)]
theorem EY (S : Sum) {n : Nat} {d r : Bytes} (hd : d.length ≤ KP) (hn : n < most) :
  readB S (frame S n d ++ r) n = (d :: (readB S r (n + 1)).1, 16 + d.length + (readB S r (n + 1)).2) := by
 rw [JB (QF S hd hn), List.drop_append_of_le_length (by rw [iL]; omega), List.drop_of_length_le (by rw [iL]; omega), List.nil_append]
theorem lI (S : Sum) : ∀ (k : Nat) (l : Bytes) (n : Nat), l.length ≤ k → ∃ r, l = fG S n (readB S l n).1 ++ r ∧ (readB S l n).2 = (fG S n (readB S l n).1).length ∧ (∀ d ∈ (readB S l n).1, d.length ≤ KP) ∧
  first S r (n + (readB S l n).1.length) = none ∧ (n ≤ most → n + (readB S l n).1.length ≤ most)
 | k, l, n, hk => by
  cases e : first S l n with
  | none => rw [JA e]; exact ⟨l, by simp [fG], rfl, by simp, by simpa using e, fun h => by simpa using h⟩
  | some d =>
   obtain ⟨r, rfl, hd, hn⟩ := first_some e
   have hl := iL S n d
   rw [List.length_append] at hk
   match k, hk with
   | 0, hk => omega
   | k + 1, hk =>
    obtain ⟨t, h1, h2, h3, h4, h5⟩ := lI S k r (n + 1) (by omega)
    rw [EY S hd hn]
    refine ⟨t, ?_, ?_, ?_, ?_, ?_⟩
    ·simp only [fG, List.append_assoc]
     rw [← h1]
    ·simp only [fG, List.length_append, hl, h2]
    ·intro x hx
     rcases List.mem_cons.1 hx with rfl | hx
     ·exact hd
     ·exact h3 x hx
    ·simp only [List.length_cons]
     rw [show n + ((readB S r (n + 1)).1.length + 1) = n + 1 + (readB S r (n + 1)).1.length by omega]
     exact h4
    ·intro hm
     simp only [List.length_cons]
     have := h5 (by omega)
     omega
theorem CW (S : Sum) : ∀ (ds : List Bytes) (n : Nat) (r : Bytes), (∀ d ∈ ds, d.length ≤ KP) → n + ds.length ≤ most →
  readB S (fG S n ds ++ r) n = (ds ++ (readB S r (n + ds.length)).1, (fG S n ds).length + (readB S r (n + ds.length)).2)
 | [], n, r, _, _ => by simp [fG]
 | d :: ds, n, r, hd, hn => by
  simp only [List.length_cons] at hn
  simp only [fG, List.append_assoc]
  rw [EY S (hd d (by simp)) (by omega), CW S ds (n + 1) r (fun x hx => hd x (by simp [hx])) (by omega)]
  have e : n + 1 + ds.length = n + (ds.length + 1) := by omega
  rw [List.length_cons, e]
  refine Prod.ext ?_ ?_
  ·simp
  ·simp only [List.length_append, iL]; omega
theorem uJ (S : Sum) {ds : List Bytes} {n : Nat} (hd : ∀ d ∈ ds, d.length ≤ KP) (hn : n + ds.length ≤ most) : readB S (fG S n ds) n = (ds, (fG S n ds).length) := by
 have := CW S ds n [] hd hn
 have e : readB S [] (n + ds.length) = ([], 0) := rfl
 rw [e] at this
 simpa using this
def byt (s : ByteArray) : Bytes := s.data.toList
theorem dK (s : ByteArray) : (byt s).length = s.size := by rw [byt, Array.length_toList]; rfl
theorem qE {a b : ByteArray} (h : byt a = byt b) : a = b := by
 cases a; cases b
 simp only [byt, ByteArray.mk.injEq] at h ⊢
 exact Array.toList_inj.1 h
theorem sS (s : ByteArray) (i j : Nat) : byt (s.extract i j) = ((byt s).take j).drop i := by
 simp [byt, ByteArray.data_extract, List.take_drop]
 rcases Nat.le_total i j with h | h
 ·rw [show i + (j - i) = j by omega]
 ·rw [show i + (j - i) = i by omega, List.drop_of_length_le (by simp; omega), List.drop_of_length_le (by simp; omega)]
theorem AQ (a b : ByteArray) : byt (a ++ b) = byt a ++ byt b := by simp [byt, ByteArray.data_append]
theorem pR (l : Bytes) : byt ⟨l.toArray⟩ = l := by simp [byt]
noncomputable def numOf (s : ByteArray) : Option Nat :=
 open Classical in if h : ∃ n, n ≤ most ∧ hexN 16 n = byt s then some h.choose else none
theorem lU {s : ByteArray} {n : Nat} : numOf s = some n ↔ n ≤ most ∧ hexN 16 n = byt s := by
 unfold numOf
 constructor
 ·intro h
  split at h
  ·rename_i hx
   injection h with h
   rw [← h]
   exact hx.choose_spec
  ·cases h
 ·intro h
  have hx : ∃ n, n ≤ most ∧ hexN 16 n = byt s := ⟨n, h⟩
  rw [dif_pos hx]
  have h2 := hx.choose_spec
  have hb : most < 16 ^ 16 := by decide
  rw [qaT (Nat.lt_of_le_of_lt h2.1 hb) (Nat.lt_of_le_of_lt h.1 hb) (h2.2.trans h.2.symm)]
abbrev Pl := S67 × Nat
noncomputable def aN (l : List S67) : List Pl := l.filterMap fun f => (numOf f.f0).map fun n => (f, n)
structure Fd where
 recs : List Bytes
 next : Nat
 qN : Option (Pl × Nat)
 gone : List Pl
def goF (S : Sum) : List Pl → Nat → Fd
 | [], n => ⟨[], n, none, []⟩
 | p :: r, n => if p.2 = n then
   if (readB S (byt p.1.f1) n).2 < p.1.f1.size then ⟨(readB S (byt p.1.f1) n).1, n + (readB S (byt p.1.f1) n).1.length, some (p, (readB S (byt p.1.f1) n).2), r⟩
   else ⟨(readB S (byt p.1.f1) n).1 ++ (goF S r (n + (readB S (byt p.1.f1) n).1.length)).recs, (goF S r (n + (readB S (byt p.1.f1) n).1.length)).next, (goF S r (n + (readB S (byt p.1.f1) n).1.length)).qN, (goF S r (n + (readB S (byt p.1.f1) n).1.length)).gone⟩
  else ⟨[], n, none, p :: r⟩
def chain (S : Sum) : Nat → List Pl → List Bytes → Nat → Prop
 | n, [], ds, m => ds = [] ∧ m = n
 | n, p :: r, ds, m => p.2 = n ∧ ∃ d1 d2, ds = d1 ++ d2 ∧ readB S (byt p.1.f1) n = (d1, p.1.f1.size) ∧ chain S (n + d1.length) r d2 m
theorem rE (S : Sum) : ∀ (n : Nat) (a b : List Pl) (ds es : List Bytes) (m k : Nat), chain S n a ds m → chain S m b es k → chain S n (a ++ b) (ds ++ es) k
 | n, [], b, ds, es, m, k, h, h2 => by
  obtain ⟨rfl, rfl⟩ := h
  exact h2
 | n, p :: r, b, ds, es, m, k, h, h2 => by
  obtain ⟨h1, d1, d2, rfl, h3, h4⟩ := h
  exact ⟨h1, d1, d2 ++ es, by simp, h3, rE S _ r b d2 es m k h4 h2⟩
theorem pU (S : Sum) : ∀ (n : Nat) (a : List Pl) (ds : List Bytes) (m : Nat), chain S n a ds m → m = n + ds.length
 | n, [], ds, m, h => by obtain ⟨rfl, rfl⟩ := h; simp
 | n, p :: r, ds, m, h => by
  obtain ⟨h1, d1, d2, rfl, h3, h4⟩ := h
  have := pU S _ r d2 m h4
  simp only [List.length_append]; omega
theorem LG (S : Sum) : ∀ (n : Nat) (a rest : List Pl) (ds : List Bytes) (m : Nat), chain S n a ds m →
  goF S (a ++ rest) n = ⟨ds ++ (goF S rest m).recs, (goF S rest m).next, (goF S rest m).qN, (goF S rest m).gone⟩
 | n, [], rest, ds, m, h => by obtain ⟨rfl, rfl⟩ := h; simp
 | n, p :: r, rest, ds, m, h => by
  obtain ⟨h1, d1, d2, rfl, h3, h4⟩ := h
  rw [List.cons_append, goF, if_pos h1, h3]
  simp only [Nat.lt_irrefl, if_false]
  rw [LG S _ r rest d2 m h4]
  simp
theorem wU (S : Sum) : ∀ (ps : List Pl) (n : Nat), ∃ kept ds m, chain S n kept ds m ∧
    (((goF S ps n).qN = none ∧ ps = kept ++ (goF S ps n).gone ∧ (goF S ps n).recs = ds ∧ (goF S ps n).next = m ∧ (∀ p r, (goF S ps n).gone = p :: r → p.2 ≠ m)) ∨
     ∃ p e dt, (goF S ps n).qN = some (p, e) ∧ ps = kept ++ p :: (goF S ps n).gone ∧ p.2 = m ∧ readB S (byt p.1.f1) m = (dt, e) ∧ e < p.1.f1.size ∧ (goF S ps n).recs = ds ++ dt ∧ (goF S ps n).next = m + dt.length)
  | [], n => ⟨[], [], n, ⟨rfl, rfl⟩, .inl ⟨rfl, rfl, rfl, rfl, by intro p r h; cases h⟩⟩
  | p :: r, n => by
    by_cases h1 : p.2 = n
    · by_cases h2 : (readB S (byt p.1.f1) n).2 < p.1.f1.size
      · refine ⟨[], [], n, ⟨rfl, rfl⟩, .inr ⟨p, (readB S (byt p.1.f1) n).2, (readB S (byt p.1.f1) n).1, ?_⟩⟩
        rw [goF, if_pos h1, if_pos h2]
        exact ⟨rfl, rfl, h1, rfl, h2, rfl, rfl⟩
      · have he : (readB S (byt p.1.f1) n).2 = p.1.f1.size := by
          obtain ⟨t, g1, g2, _⟩ := lI S _ (byt p.1.f1) n (Nat.le_refl _)
          have := congrArg List.length g1
          rw [dK, List.length_append] at this
          omega
        obtain ⟨kept, ds, m, hc, hh⟩ := wU S r (n + (readB S (byt p.1.f1) n).1.length)
        refine ⟨p :: kept, (readB S (byt p.1.f1) n).1 ++ ds, m, ⟨h1, _, ds, rfl, by rw [← he], hc⟩, ?_⟩
        rw [goF, if_pos h1, if_neg h2]
        rcases hh with ⟨a1, a2, a3, a4, a5⟩ | ⟨q, e, dt, a1, a2, a3, a4, a5, a6, a7⟩
        · exact .inl ⟨a1, by simp only [List.cons_append, List.cons.injEq, true_and]; exact a2, by simp only [a3], a4, a5⟩
        · exact .inr ⟨q, e, dt, a1, by simp only [List.cons_append, List.cons.injEq, true_and]; exact a2, a3, a4, a5, by simp only [a6, List.append_assoc], a7⟩
    · refine ⟨[], [], n, ⟨rfl, rfl⟩, .inl ?_⟩
      rw [goF, if_neg h1]
      exact ⟨rfl, rfl, rfl, rfl, by intro q t h; injection h with h _; rw [← h]; exact h1⟩
theorem qaU (S : Sum) {s : ByteArray} {n e : Nat} {dt : List Bytes} (h : readB S (byt s) n = (dt, e)) (hn : n ≤ most) : (s.extract 0 e).size = e ∧ readB S (byt (s.extract 0 e)) n = (dt, (s.extract 0 e).size) := by
 obtain ⟨t, g1, g2, g3, g4, g5⟩ := lI S _ (byt s) n (Nat.le_refl _)
 rw [h] at g1 g2 g3 g4 g5
 simp only at g1 g2 g3 g4 g5
 have hb : byt (s.extract 0 e) = fG S n dt := by
  rw [sS, List.drop_zero, g1, g2, List.take_append_of_le_length (by omega), List.take_of_length_le (by omega)]
 have hs : (s.extract 0 e).size = e := by rw [← dK, hb, g2]
 refine ⟨hs, ?_⟩
 rw [hb, uJ S g3 (g5 hn), hs, g2]
open Go.RowKit Go.Proofs.aA.aK
def SU : Sum where
 f n d := wQ (qdq (n : Int) ⟨d.toArray⟩).toNat 4
 four n d := oU _ _
theorem CX (xs : List Int) : byt (strOfNums xs) = xs.map fun n => UInt8.ofNat n.toNat := strOfNums_data xs
theorem QG (d : ByteArray) : (bytesOf d).map (fun n => UInt8.ofNat n.toNat) = byt d := by
 simp [bytesOf, byt, List.map_map, Function.comp_def]
theorem QH : ∀ (k n : Nat), wQ n k = (List.range k).map fun i => UInt8.ofNat (n / 256 ^ i)
 | 0, n => rfl
 | k + 1, n => by
  rw [wQ, QH k (n / 256), List.range_succ_eq_map, List.map_cons, List.map_map]
  simp only [Nat.pow_zero, Nat.div_one, List.cons.injEq, true_and]
  refine List.map_congr_left fun i _ => ?_
  simp only [Function.comp]
  rw [Nat.div_div_eq_div_mul, Nat.pow_succ, Nat.mul_comm]
theorem AU (n k : Nat) : (qW (n : Int) k).map (fun x => UInt8.ofNat x.toNat) = wQ n k := by
 rw [QH, qW, List.map_map]
 refine List.map_congr_left fun i _ => ?_
 simp only [Function.comp, byteAt]
 have e : (n : Int) / 2 ^ (8 * i) % 256 = ((n / 2 ^ (8 * i) % 256 : Nat) : Int) := by rw [Int.natCast_emod, Int.natCast_ediv, Int.natCast_pow]; rfl
 rw [e, Int.toNat_natCast, show (256 : Nat) ^ i = 2 ^ (8 * i) by rw [Nat.pow_mul]]
 apply UInt8.toNat_inj.1
 simp
theorem sU (q : Nat) (d : ByteArray) : byt (fV (q : Int) d) = frame SU q (byt d) := by
 have hs : 0 ≤ qdq (q : Int) d := (PX _ _ _).1
 obtain ⟨m, hm⟩ := Int.eq_ofNat_of_zero_le hs
 rw [fV, CX, qaD, qaC, hm]
 simp only [List.map_append, QG]
 rw [show (m : Int) = ((m : Nat) : Int) from rfl, AU, AU, AU]
 simp only [frame, SU, dK, List.append_assoc]
 congr 3
 rw [show (⟨(byt d).toArray⟩ : ByteArray) = d from qE (pR _), hm]
 simp
end Go.Proofs.gB
namespace Go.Proofs.Sp
open Go.RowKit Go.Proofs.aA.aK Go.Proofs.aA.aW Go.Proofs.aA.aX
theorem TB (W : World) (r : Nat) (o : Obj) : Upd W (W.putObj r o) (fun k => k = r) :=
 ⟨rfl, rfl, rfl, by simp, fun k _ hn => World.putObj_heap_other hn⟩
theorem Sep.putObj {b W : World} {pre post : List Res} {r : Nat} {o : Obj} (H : Sep b W (pre ++ thing r o :: post)) (o' : Obj) : Sep b (W.putObj r o') (pre ++ thing r o' :: post) := by
 have h : W.heap[r]? = some o := H.all (thing r o) (by simp)
 exact H.upd (r' := thing r o') (TB W r o') (World.putObj_heap_same (gJ h)) (fun k hk => .inl hk)
theorem Sep.JC {b W : World} {rs : List Res} {r : Nat} {o : Obj} (H : Sep b W rs) (hm : thing r o ∈ rs) : W.heap[r]? = some o := H.all _ hm
theorem Sep.JD {b W : World} {rs : List Res} (H : Sep b W rs) (o : Obj) : Sep b (W.alloc o) (thing W.heap.size o :: rs) :=
 H.push (aQ (Below.refl _ _) _) _ (jV W _) (fun g hg => by rw [show g = W.heap.size from hg]; exact Nat.le_refl _)
def qaV {α : Type} (P : Program) (b : World) (gf : Nat) (lb : Array Value) (encs : α → Array Value) (xs : List α) (own : List α → List Res) : Prop :=
 ∀ (l : Nat) (T : List α → List Res → Prop) (W : World),
  (∀ pre x post, xs = pre ++ x :: post → ∀ W1 ts, T pre ts → aC (Sep b W1 (own pre ++ ts)) → YieldAt Fence.wide 0 P l (encs x) W1 fun e W' => e = .returned (.bool true) ∧ ∃ ts', T (pre ++ [x]) ts' ∧ aC (Sep b W' (own pre ++ ts'))) →
  (∃ ts, T [] ts ∧ aC (Sep b W (own [] ++ ts))) →
  CallsIn Fence.wide 0 P gf (#[.func (.yield l) #[] #[]] ++ lb) W fun e W' => (∃ v, e = .returned v) ∧ ∃ ts, T xs ts ∧ aC (Sep b W' (own xs ++ ts))
theorem qaW {α : Type} (a b c : List α) : (a ++ (b ++ c)).Perm (b ++ (a ++ c)) := by
 rw [← List.append_assoc, ← List.append_assoc]
 exact List.Perm.append_right c List.perm_append_comm
theorem ZB {α : Type} {P : Program} {g : Operand} {ps : Array Tmp} {assign body : Code} {Q : Exit → Act → World → Prop} {a : Act} {b w : World} {gf : Nat} {lb : Array Value}
    (encs : α → Array Value) (xs : List α) (own : List α → List Res) (R : List α → List Res → Prop) (M : List α → α → Act → List Res → Prop) (rs0 : List Res)
    (hg : a.eval g = .func (.func gf) #[] lb) (eg : ∀ args w, (callFunc gf args).run P w = .ok (.enter gf args) w) (hps : ∀ x, (encs x).size = ps.size)
    (hi : qaV P b gf lb encs xs own) (hR0 : R [] rs0) (H : aC (Sep b w (own [] ++ rs0)))
    (hassign : ∀ (l : Nat) (S : List Res) (pre : List α) (x : α) (post : List α) (W1 : World) (rs : List Res) (K : Act → World → Prop), xs = pre ++ x :: post → R pre rs → aC (Sep b W1 (rs ++ S)) →
      (∀ a1 W2 ms, M pre x a1 ms → aC (Sep b W2 (ms ++ S)) → K a1 W2) →
      assign.wpIn (Fence.wide.inRound l) 0 P (Exit.then K (fun _ _ _ => False)) { tmps := (ps.zip (encs x)).foldl (fun t (p, v) => t.setIfInBounds p v) a.tmps, defers := [] } W1)
    (hbody : ∀ (l : Nat) (S : List Res) (pre : List α) (x : α) (post : List α) (a1 : Act) (W2 : World) (ms : List Res), xs = pre ++ x :: post → M pre x a1 ms → aC (Sep b W2 (ms ++ S)) →
      body.wpIn (Fence.wide.inRound l) 0 P (Exit.then (fun _ W3 => ∃ rs, R (pre ++ [x]) rs ∧ aC (Sep b W3 (rs ++ S))) (fun _ _ _ => False)) a1 W2)
    (hdone : ∀ (D : Nat) (W2 : World) (rs : List Res), R xs rs → aC (Sep b W2 (rs ++ (own xs ++ [thing D (.deferred (some []))]))) → Q .normal { a with defers := { target := .collected D, args := #[] } :: a.defers } W2) :
    (Code.rangeFunc g ps assign body).wp P Q a w := by
  refine wpIn_wide (n := 0).1 (wpIn_rangeFunc ?_)
  intro fn hfn
  obtain ⟨rec, hrec⟩ : ∃ rec : LoopState → Loop, rec = fun st => { state := st, pending := none, fn, tmps := a.tmps, params := ps, assign, body, defers := w.heap.size } := ⟨_, rfl⟩
  obtain ⟨W1, hW1⟩ : ∃ W1, (w.alloc (.deferred (some []))).alloc (.loop (rec .ready)) = W1 := ⟨_, rfl⟩
  have H1 : Sep b W1 (thing (w.heap.size + 1) (.loop (rec .ready)) :: thing w.heap.size (.deferred (some [])) :: (own [] ++ rs0)) := by
    rw [← hW1]
    have := (H.out.JD (.deferred (some []))).JD (.loop (rec .ready))
    rwa [World.size_alloc] at this
  obtain ⟨l, hl⟩ : ∃ l, l = w.heap.size + 1 := ⟨_, rfl⟩
  obtain ⟨D, hD⟩ : ∃ D, D = w.heap.size := ⟨_, rfl⟩
  refine ⟨w.heap.size + 1, [{ target := .collected w.heap.size, args := #[] }], W1, { target := .fn (.func gf) lb, args := #[.func (.yield (w.heap.size + 1)) #[] #[]] }, W1, gf,
    #[.func (.yield (w.heap.size + 1)) #[] #[]] ++ lb, W1, ?_, ?_, ?_, ?_, (fun h => by cases h), ?_⟩
  · rw [← hW1, hrec]; exact run_enterLoop_outer _ _ _ _ _
  · simp only [resolve, hg]
    simp [go_sem]
  · intro f' _; trivial
  · simp [invoke, go_sem, eg]
  · rw [← hl, ← hD] at H1 ⊢
    refine (hi l (fun pre ts => ∃ rs, R pre rs ∧ ts = rs ++ [thing l (.loop (rec .ready)), thing D (.deferred (some []))]) W1 ?_ ⟨_, ⟨rs0, hR0, rfl⟩, ⟨H1.perm ?_⟩⟩).mono ?_
    · rintro pre x post hx W2 ts ⟨rs, hR, rfl⟩ H2
      have H3 : Sep b W2 ((own pre ++ rs) ++ thing l (.loop (rec .ready)) :: [thing D (.deferred (some []))]) := by
        have := H2.out
        rwa [← List.append_assoc] at this
      have hlp := H3.JC (r := l) (o := .loop (rec .ready)) (by simp)
      have hy := run_yield (P := P) (args := encs x) hlp (by rw [hrec]; exact hps x)
      rw [hrec] at hy
      refine ⟨fn, _, assign, body, hy, roundIn_of_wpIn hfn ?_⟩
      refine hassign l (own pre ++ [thing l (.loop (rec .ready)), thing D (.deferred (some []))]) pre x post W2 rs _ hx hR ⟨H2.out.perm (qaW _ _ _)⟩ ?_
      intro a1 W3 ms hM H4
      have H5 : Sep b W3 ((ms ++ own pre) ++ thing l (.loop (rec .ready)) :: [thing D (.deferred (some []))]) := by
        have := H4.out
        rwa [← List.append_assoc] at this
      have hl3 := H5.JC (r := l) (o := .loop (rec .ready)) (by simp)
      refine ⟨_, run_beginRound hl3 (by rw [hrec]), ?_⟩
      have H6 := H5.putObj (.loop { rec .ready with state := .busy })
      rw [List.append_assoc] at H6
      refine wpIn_mono (hbody l (own pre ++ thing l (.loop { rec .ready with state := .busy }) :: [thing D (.deferred (some []))]) pre x post a1 _ ms hx hM ⟨H6⟩) ?_
      rintro e a3 W4 hp
      cases e with
      | normal =>
        obtain ⟨rs', hR', Hp⟩ := (show ∃ rs', R (pre ++ [x]) rs' ∧ aC (Sep b W4 (rs' ++ (own pre ++ thing l (.loop { rec .ready with state := .busy }) :: [thing D (.deferred (some []))]))) from hp)
        have H7 : Sep b W4 ((rs' ++ own pre) ++ thing l (.loop { rec .ready with state := .busy }) :: [thing D (.deferred (some []))]) := by
          have := Hp.out
          rwa [← List.append_assoc] at this
        have hl4 := H7.JC (r := l) (o := .loop { rec .ready with state := .busy }) (by simp)
        have hend := run_endRound (P := P) none hl4
        refine ⟨_, _, hend, rfl, _, ⟨rs', hR', rfl⟩, ⟨?_⟩⟩
        have H8 := H7.putObj (.loop (rec .ready))
        have e1 : (Obj.loop { ({ rec .ready with state := .busy } : Loop) with state := if (none : Option Code).isNone then .ready else .done, pending := none }) = .loop (rec .ready) := by rw [hrec]; rfl
        rw [e1]
        rw [List.append_assoc] at H8
        exact H8.perm (qaW _ _ _)
      | ret => exact hp.elim
      | exit id => exact hp.elim
      | goto t => exact hp.elim
      | panic ch => exact hp.elim
      | outgrown => exact hp.elim
    · have hp := List.perm_append_comm (l₁ := [thing l (.loop (rec .ready)), thing D (.deferred (some []))]) (l₂ := own [] ++ rs0)
      rw [List.append_assoc] at hp
      exact hp
    · rintro e W2 ⟨⟨v, rfl⟩, ts, ⟨rs, hR, rfl⟩, H2⟩
      have H3 : Sep b W2 ((own xs ++ rs) ++ thing l (.loop (rec .ready)) :: [thing D (.deferred (some []))]) := by
        have := H2.out
        rwa [← List.append_assoc] at this
      have hl3 := H3.JC (r := l) (o := .loop (rec .ready)) (by simp)
      have hend := run_endLoop (P := P) hl3 (by rw [hrec]; simp)
      rw [show (rec .ready).pending = none by rw [hrec]] at hend
      refine ⟨none, _, hend, hdone D _ rs hR ⟨?_⟩⟩
      refine Sep.perm ?_ (qaW (own xs) rs _)
      rw [← List.append_assoc]
      exact (H3.putObj _).drop
def marks (ds : List Nat) : List Res := ds.map fun D => thing D (.deferred (some []))
def TD (D : Nat) : Deferred := { target := .collected D, args := #[] }
theorem CY {P : Program} {fn : Func} {tmps : Array Value} {R : Ending → World → Prop} {b : World} {rs : List Res} : ∀ (ds : List Nat) (w : World), aC (Sep b w (rs ++ marks ds)) →
  (∀ w', aC (Sep b w' rs) → ∃ v, (results fn tmps).run P w' = .ok v w' ∧ R (.returned v) w') → LeavesInM Fence.wide 0 P fn tmps R (ds.map TD) .returning w
 | [], w, H, hR => hR w ⟨by have := H.out; simpa [marks] using this⟩
 | D :: ds, w, H, hR => by
  have hD := H.out.JC (r := D) (o := .deferred (some [])) (by simp [marks])
  refine ⟨by simp, .inl ⟨D, _, rfl, run_takeDeferred hD, CY ds _ ⟨?_⟩ hR⟩⟩
  exact ((show Sep b w (rs ++ thing D (.deferred (some [])) :: marks ds) from H.out).putObj (.deferred none)).drop
end Go.Proofs.Sp
namespace Go.Proofs.gB
open Go.Proofs.U Go.RowKit Go.Proofs.aA.aK
abbrev Rc := Nat × Nat × ByteArray
def wV : List Bytes → Nat → Nat → List Rc
 | [], _, _ => []
 | d :: ds, a, n => (a + 16 + d.length, n, ⟨d.toArray⟩) :: wV ds (a + 16 + d.length) (n + 1)
def lY (s : ByteArray) (a n : Nat) : List Rc := wV (readB SU ((byt s).drop a) n).1 a n
theorem D6 {s : ByteArray} {a n : Nat} (h : first SU ((byt s).drop a) n = none) : lY s a n = [] := by rw [lY, JA h]; rfl
theorem ZC {s : ByteArray} {a n : Nat} {d : ByteArray} (h : first SU ((byt s).drop a) n = some (byt d)) : lY s a n = (a + 16 + d.size, n, d) :: lY s (a + 16 + d.size) (n + 1) := by
 rw [lY, JB h, wV, dK, List.drop_drop, show (⟨(byt d).toArray⟩ : ByteArray) = d from qE (pR _), lY, show a + (16 + d.size) = a + 16 + d.size by omega]
def D7 (s : ByteArray) (a : Nat) : Nat → Int
 | 0 => 0
 | j + 1 => D7 s a j * 256 + bt s ((a : Int) + (3 - (j : Int)))
theorem AV (s : ByteArray) (a : Nat) : ∀ j, 0 ≤ D7 s a j ∧ D7 s a j < 256 ^ j
 | 0 => ⟨Int.le_refl _, by simp [D7]⟩
 | j + 1 => by
  have h := AV s a j
  have hb := tZ s ((a : Int) + (3 - (j : Int)))
  rw [D7, Int.pow_succ]
  omega
theorem qdx {s : ByteArray} {i : Nat} (h : i < s.size) : bt s (i : Int) = (((byt s)[i]'(by rw [dK]; exact h)).toNat : Int) := by
 rw [bt, dif_pos (by simpa using h)]
 rfl
theorem qel {l : Bytes} (h : 4 ≤ l.length) : l.take 4 = [l[0], l[1], l[2], l[3]] := by
 match l, h with
 | a :: b :: c :: d :: r, _ => rfl
theorem qdy {s : ByteArray} {a : Nat} (h : a + 16 ≤ s.size) : D7 s a 4 = ((wR (((byt s).drop a).take 4) : Nat) : Int) := by
 have hl : ((byt s).drop a).length = s.size - a := by rw [List.length_drop, dK]
 rw [qel (by omega)]
 simp only [D7, wR, List.getElem_drop]
 have e (j : Nat) (hj : j < 4) : bt s ((a : Int) + (3 - (j : Int))) = (((byt s)[a + (3 - j)]'(by rw [dK]; omega)).toNat : Int) := by
  rw [← qdx (by omega)]
  congr 1
  omega
 have e0 := e 0 (by omega)
 have e1 := e 1 (by omega)
 have e2 := e 2 (by omega)
 have e3 := e 3 (by omega)
 simp only [Nat.sub_zero, Nat.reduceSub] at e0 e1 e2 e3
 simp only [e0, e1, e2, e3]
 omega
theorem qaX {s : ByteArray} {a n : Nat} (h : ¬ (a + 16 ≤ s.size ∧ n < most)) : first SU ((byt s).drop a) n = none := by
 rw [first, if_neg]
 rintro ⟨h1, h2, _⟩
 rw [List.length_drop, dK] at h1
 exact h ⟨by omega, h2⟩
theorem ZE {s : ByteArray} {a n : Nat} {k : Nat} (hk : k = wR (((byt s).drop a).take 4)) (h : ¬ (k ≤ 65536 ∧ k ≤ s.size - a - 16)) : first SU ((byt s).drop a) n = none := by
 rw [first, if_neg]
 rintro ⟨h1, h2, h3, h4, _⟩
 rw [List.length_drop, dK] at h4
 rw [← hk] at h3 h4
 exact h ⟨h3, h4⟩
theorem LH (s : ByteArray) (a k : Nat) : ((byt s).drop a).take (16 + k) = byt (s.extract a (a + 16 + k)) := by
 rw [sS, List.take_drop, show a + (16 + k) = a + 16 + k by omega]
theorem JE (s : ByteArray) (a k : Nat) : (((byt s).drop a).drop 16).take k = byt (s.extract (a + 16) (a + 16 + k)) := by
 rw [sS, List.drop_drop, List.take_drop]
theorem QI {s : ByteArray} {a n : Nat} {k : Nat} (hk : k = wR (((byt s).drop a).take 4)) (h : s.extract a (a + 16 + k) ≠ fV (n : Int) (s.extract (a + 16) (a + 16 + k))) : first SU ((byt s).drop a) n = none := by
 rw [first, if_neg]
 rintro ⟨h1, h2, h3, h4, h5⟩
 rw [← hk, LH, JE, ← sU] at h5
 exact h (qE h5)
theorem qaY {s : ByteArray} {a n : Nat} {k : Nat} (hk : k = wR (((byt s).drop a).take 4)) (h0 : a + 16 ≤ s.size) (hn : n < most) (h1 : k ≤ 65536) (h2 : k ≤ s.size - a - 16) (h : s.extract a (a + 16 + k) = fV (n : Int) (s.extract (a + 16) (a + 16 + k))) :
  first SU ((byt s).drop a) n = some (byt (s.extract (a + 16) (a + 16 + k))) := by
 rw [first, ← hk, LH, JE, ← sU, if_pos]
 refine ⟨?_, hn, h1, ?_, by rw [h]⟩
 ·rw [List.length_drop, dK]; omega
 ·rw [List.length_drop, dK]; omega
end Go.Proofs.gB
namespace Go.Proofs.U
open Go.RowKit Go.Proofs.aA.aK Go.Proofs.aA.aW Go.Proofs.aA.aX
attribute [local go_sem] iD iG jB jJ gU gV iP iQ
def lJ.f (a0 : Int) : Option (Bool) := some ((Go.bits .and .i64 a0 (wrap64 (a0 - 1))) == 0)
set_option maxHeartbeats 8000000 in
theorem lJ.calls (a0 : Int) (r : Bool) (w : World) (h : lJ.f a0 = some r) :
  Calls Tryz.prog 234 #[.int .i64 a0] w fun e w' => e = .returned (.bool r) ∧ eY w w' := by
 have H : (some ((Go.bits .and .i64 a0 (wrap64 (a0 - 1))) == 0)) = some r := h
 clear h
 obtain rfl := Option.some.inj H
 go_enter Tryz.func234, Tryz.ntmps234
 go_wp2
 go_ret
 exact ⟨by first | rfl | (simp; done) | (simp [*]; done), by repeat (first | exact eY.refl _ | apply eY.step)⟩
end Go.Proofs.U
namespace Go.Proofs.U
open Go.RowKit Go.Proofs.aA.aK Go.Proofs.aA.aW Go.Proofs.aA.aX Go.Proofs.Sp Go.Proofs.gB
theorem qb3 (w : World) (hT : w.cell? ⟨7, 15, none⟩ = some (.int .u8 4)) : Calls Tryz.prog 249 #[.int .u64 16] w fun e w' => e = .returned (.int .i64 4) ∧ w' = w := by
 have h1 : IntKind.u64.wrap (-16) = 18446744073709551600 := by decide +kernel
 have h2 : bits .and .u64 16 18446744073709551600 = 16 := by decide +kernel
 go_enter Tryz.func249, Tryz.ntmps249
 go_wp2_with (simp only [h1, h2])
 go_ret
 exact ⟨rfl, rfl⟩
theorem qem (w : World) (hT : w.cell? ⟨7, 15, none⟩ = some (.int .u8 4)) : Calls Tryz.prog 235 #[.int .u64 16] w fun e w' => e = .returned (.int .i64 4) ∧ w' = w := by
 go_enter Tryz.func235, Tryz.ntmps235
 go_wp2_with fail
 refine (qb3 w hT).mono ?_
 rintro e w1 ⟨rfl, rfl⟩
 go_wp2
 go_ret
 exact ⟨rfl, rfl⟩
theorem QJ {k : IntKind} (xs : List Int) (i : Nat) (d : Int) : (nums k xs).set i (.int k d) = nums k (xs.set i d) := by simp [nums, List.map_set]
theorem qdz {x : Int} (h0 : 0 ≤ x) (h1 : x < 18446744073709551616) : bits .and .u64 x 15 = x % 16 := by
 have h := bits_mask .u64 64 (by decide) (fun n g0 g1 => by
  have e : (2 : Int) ^ 64 = 18446744073709551616 := rfl
  rw [e] at g1
  simp [IntKind.wrap, IntKind.signed, IntKind.bits]
  omega) 4 (by decide) x h0 (by rw [show (2 : Int) ^ 64 = 18446744073709551616 from rfl]; exact h1)
 exact h
theorem qaZ (x : Int) (h0 : 0 ≤ x) (h1 : x < 16) (hh : x.toNat < (⟨#[48, 49, 50, 51, 52, 53, 54, 55, 56, 57, 97, 98, 99, 100, 101, 102, 103, 104, 105, 106, 107, 108, 109, 110, 111, 112, 113, 114, 115, 116, 117, 118, 119, 120, 121, 122]⟩ : ByteArray).size) :
  ((((⟨#[48, 49, 50, 51, 52, 53, 54, 55, 56, 57, 97, 98, 99, 100, 101, 102, 103, 104, 105, 106, 107, 108, 109, 110, 111, 112, 113, 114, 115, 116, 117, 118, 119, 120, 121, 122]⟩ : ByteArray)[x.toNat]'hh).toNat : Nat) : Int) = ((F5 x.toNat).toNat : Int) := by
 obtain ⟨d, rfl⟩ := Int.eq_ofNat_of_zero_le h0
 have h2 : d < 16 := by omega
 clear h0 h1
 simp only [Int.toNat_natCast] at hh ⊢
 rcases d with _ | _ | _ | _ | _ | _ | _ | _ | _ | _ | _ | _ | _ | _ | _ | _ | d
 all_goals first | rfl | omega
theorem set_drop {α : Type} (xs : List α) (i : Nat) (d : α) (h : i < xs.length) : (xs.set i d).drop i = d :: xs.drop (i + 1) := by
 rw [List.drop_eq_getElem_cons (by simpa using h), List.getElem_set_self, List.drop_set_of_lt (by omega)]
def JF (n j : Nat) : List Int := (hexN j (n % 16 ^ j)).map fun b => (b.toNat : Int)
theorem JG (n j : Nat) : JF n (j + 1) = ((F5 (n / 16 ^ j % 16)).toNat : Int) :: JF n j := by
 rw [JF, hexN, JF, List.map_cons]
 have hp : 0 < 16 ^ j := Nat.pow_pos (by decide)
 have e1 : n % 16 ^ (j + 1) / 16 ^ j = n / 16 ^ j % 16 := by
  rw [Nat.pow_succ, Nat.mod_mul, Nat.add_mul_div_left _ _ hp, Nat.div_eq_of_lt (Nat.mod_lt _ hp), Nat.zero_add]
 have e2 : n % 16 ^ (j + 1) % 16 ^ j = n % 16 ^ j := by
  rw [Nat.pow_succ, Nat.mod_mul_right_mod]
 rw [e1, e2, Nat.mod_mod]
theorem qa1 (w : World) (ga j : Nat) (hj : j ≤ 15) : (Instr.sliceAt 265 (.pointer (some ⟨ga, 0, none⟩)) (some (.int .i64 (65 - (j : Int) - 1))) none none).run Tryz.prog w = .ok (.slice (some ⟨ga, 65 - j - 1, none⟩) (j + 1) (j + 1)) w := by
 have hal : Tryz.prog.arrayLen 265 = 65 := by kernel_rfl
 have hau : Tryz.prog.underlying 265 = some (.array 65 5) := by kernel_rfl
 have hae : Tryz.prog.elem 265 = 5 := by kernel_rfl
 have hsz : (sizeOf (Tryz.prog.elem 265)).run Tryz.prog w = .ok 1 w := by
  rw [hae]
  kernel_rfl
 rw [run_sliceAt_array_l w 265 ⟨ga, 0, none⟩ (by rw [hal, hae]; exact hau) .i64 _ (by omega) (by rw [hal]; omega), hsz, hal]
 have e : (65 - (j : Int) - 1).toNat = 65 - j - 1 := by omega
 simp only [Result.andThen, slicedAt, e]
 rw [if_neg (by omega)]
 simp only [Addr.add, Nat.mul_one, Nat.zero_add]
 rw [if_neg (by omega), show 65 - (65 - j - 1) = j + 1 by omega]
theorem qb4 (w : World) (ga j : Nat) (hj : j ≤ 15) (xs : List Int) (hx : xs.length = 65) (h : w.heap[ga]? = some (.cells (nums .u8 xs).toArray 265 (0, 0))) :
  (convert 147 9 (.slice (some ⟨ga, 65 - j - 1, none⟩) (j + 1) (j + 1))).run Tryz.prog w = .ok (.string (strOfNums (xs.drop (65 - j - 1)))) w := by
 have hc5 := Kd.qdl (m := 65 - j - 1) (c := 65) (qaA h (by rw [hx]; decide)) (by rw [hx]; omega) (by rw [hx]; omega)
 rw [if_neg (by omega : ¬ 65 = 65 - j - 1)] at hc5
 have hs5 := Kd.wE (P := Tryz.prog) (src := 147) (dst := 9) (e := 5) (c := j + 1) Tryz.underlying147 Tryz.underlying5 Tryz.underlying9 hc5
 have e1 : (xs.drop (65 - j - 1)).length = j + 1 := by rw [List.length_drop, hx]; omega
 have e2 : Option.map (fun x : Addr => x.add ((65 - j - 1) * (Kd.int IntKind.u8).sz)) (some ⟨ga, 0, none⟩) = some ⟨ga, 65 - j - 1, none⟩ := by
  have : (Kd.int IntKind.u8).sz = 1 := rfl
  simp only [Option.map, Addr.add, this, Nat.mul_one, Nat.zero_add]
  rw [if_neg (by omega)]
 rw [e1, e2] at hs5
 exact hs5
set_option maxHeartbeats 4000000 in
theorem JH (n : Nat) (w : World) (hn : n < 18446744073709551616) (hT : w.cell? ⟨7, 15, none⟩ = some (.int .u8 4)) :
  Calls Tryz.prog 204 #[.slice none 0 0, .int .u64 (n : Int), .int .i64 16, .bool false, .bool false] w fun e w' => ∃ s c, e = .returned (.tuple #[.slice none 0 0, .string s]) ∧ Below w.heap.size w w' ∧ c ≤ 15 ∧ n < 16 ^ (c + 1) ∧ byt s = hexN (c + 1) n := by
 have HN := aC.mk hn
 obtain ⟨ni, hni⟩ : ∃ ni : Int, ni = (n : Int) := ⟨_, rfl⟩
 rw [← hni]
 have hn0 : 0 ≤ ni := by omega
 have HNI := aC.mk hni
 clear hni hn
 have H := aC.mk (Sep.start w)
 have hal : Tryz.prog.arrayLen 265 = 65 := by kernel_rfl
 have hau : Tryz.prog.underlying 265 = some (.array 65 5) := by kernel_rfl
 have hae : Tryz.prog.elem 265 = 5 := by kernel_rfl
 go_enter Tryz.func204, Tryz.ntmps204
 go_wp2_with (first
 |((with_reducible refine aU (N := 12) rfl ?_);
   refine bK rfl H (cs := [.int .u8 0, .int .u8 0, .int .u8 0, .int .u8 0, .int .u8 0, .int .u8 0, .int .u8 0, .int .u8 0, .int .u8 0, .int .u8 0, .int .u8 0, .int .u8 0, .int .u8 0, .int .u8 0, .int .u8 0, .int .u8 0, .int .u8 0, .int .u8 0, .int .u8 0, .int .u8 0, .int .u8 0, .int .u8 0, .int .u8 0, .int .u8 0, .int .u8 0, .int .u8 0, .int .u8 0, .int .u8 0, .int .u8 0, .int .u8 0, .int .u8 0, .int .u8 0, .int .u8 0, .int .u8 0, .int .u8 0, .int .u8 0, .int .u8 0, .int .u8 0, .int .u8 0, .int .u8 0, .int .u8 0, .int .u8 0, .int .u8 0, .int .u8 0, .int .u8 0, .int .u8 0, .int .u8 0, .int .u8 0, .int .u8 0, .int .u8 0, .int .u8 0, .int .u8 0, .int .u8 0, .int .u8 0, .int .u8 0, .int .u8 0, .int .u8 0, .int .u8 0, .int .u8 0, .int .u8 0, .int .u8 0, .int .u8 0, .int .u8 0, .int .u8 0, .int .u8 0]) (t := 265) ?hr ?_;
   (case hr => first | (go_simp; done) | (go_simp; rfl));
   intro ga w1 n_;
   simp only [Act.put, zA, zZ, zS];
   clear H;
   have H : aC (Sep w w1 [box ga (nums .u8 (List.replicate 65 0)) 265]) := n_;
   clear n_)
 |fail)
 refine ((lJ.calls 16 true _ (by decide +kernel)).mono ?_)
 rintro e w2 ⟨rfl, hb⟩
 have n_ := aC.mk (H.out.step hb.below)
 clear H hb
 have H := n_
 clear n_
 go_wp2_with fail
 refine ((qem _ ((H.out.below.cell (World.block_lt_of_cell? _ _ hT)).trans hT)).mono ?_)
 rintro e w3 ⟨rfl, rfl⟩
 go_wp2_with fail
 go_loopw [1, 13] (fun v1 v13 wr => ∃ (j : Nat) (ui : Int) (xs : List Int), v1 = .int .u64 ui ∧ v13 = .int .i64 (65 - (j : Int)) ∧ j ≤ 15 ∧ 0 ≤ ui ∧ ui ≤ ni ∧ aC (ui = ((n / 16 ^ j : Nat) : Int)) ∧ aC (xs.length = 65) ∧ aC (xs.drop (65 - j) = JF n j) ∧ aC (Sep w wr [box ga (nums .u8 xs) 265]))
  (fun v1 _ _ => (intOf v1).toNat)
 case atStart => exact ⟨0, ni, _, rfl, rfl, by omega, hn0, Int.le_refl _, ⟨by rw [HNI.out]; simp⟩, ⟨by simp⟩, ⟨by simp [JF, hexN]⟩, H⟩
 case round =>
  clear H
  obtain ⟨j, ui, xs, rfl, rfl, hj, hu0, hu1, HU, HXL, HXT, H⟩ := hrel
  have c_a := H.out.cell (g := ga) aP
  have z_a := H.out.frozen (g := ga) aP
  by_cases hge : 16 ≤ ui
  ·have qim : j < 15 := by
    rcases Nat.lt_or_ge j 15 with h | h
    ·exact h
    ·exfalso
     obtain rfl : j = 15 := by omega
     have h1 := HU.out
     have h2 := HN.out
     have h3 : n / 16 ^ 15 < 16 := by
      rw [Nat.div_lt_iff_lt_mul (Nat.pow_pos (by decide))]
      exact h2
     omega
   have hm : bits .and .u64 ui 15 = ui % 16 := qdz hu0 (by
    have := HN.out
    have := HNI.out
    omega)
   have hjx : 65 - j - 1 < xs.length := by rw [HXL.out]; omega
   have hc : (nums .u8 xs)[65 - j - 1]? = some (.int .u8 (xs[65 - j - 1]'hjx)) := by simp [nums, hjx]
   go_wp2_with fail
   refine ⟨⟨j + 1, ui / 16, xs.set (65 - j - 1) ((F5 (n / 16 ^ j % 16)).toNat : Int), rfl, by congr 1; omega, by omega, by omega, by omega, ⟨?_⟩, ⟨by rw [List.length_set]; exact HXL.out⟩, ⟨?_⟩, ⟨?_⟩⟩, by simp [intOf]; omega⟩
   ·rw [HU.out, Nat.pow_succ, ← Nat.div_div_eq_div_mul]
    rfl
   ·rw [show 65 - (j + 1) = 65 - j - 1 by omega, set_drop _ _ _ hjx, show 65 - j - 1 + 1 = 65 - j by omega, HXT.out, JG]
   ·refine Sep.set0 (cs' := nums .u8 _) H.out _ _ ?_
    rw [qaZ (ui % 16) (by omega) (by omega), QJ]
    congr 3
    rw [HU.out]
    rfl
  ·have hjx : 65 - j - 1 < xs.length := by rw [HXL.out]; omega
   have hc : (nums .u8 xs)[65 - j - 1]? = some (.int .u8 (xs[65 - j - 1]'hjx)) := by simp [nums, hjx]
   go_wp2_with (first
 |((with_reducible refine aV (t := 5) (p := 63) rfl ?_);
   refine bH (rs1 := [box ga (nums .u8 (xs.set (65 - j - 1) ((F5 (n / 16 ^ j % 16)).toNat : Int))) 265]) rfl (t := 5) (p := 63) rfl rfl ?hr (H1 := Sep.set0 (cs' := nums .u8 (xs.set (65 - j - 1) ((F5 (n / 16 ^ j % 16)).toNat : Int))) H.out (65 - j - 1) ?v ?e) ?_;
   (case hr => first | (go_simp; done) | (go_simp; rfl));
   (case e => (rw [qaZ ui hu0 (by omega), QJ]; congr 3; rw [HU.out, Int.toNat_natCast, Nat.mod_eq_of_lt (by have := HU.out; omega)]));
   intro w5 n_; clear H c_a z_a hc; have H := n_; clear n_;
   obtain ⟨ys, hys⟩ : ∃ ys, ys = xs.set (65 - j - 1) ((F5 (n / 16 ^ j % 16)).toNat : Int) := ⟨_, rfl⟩;
   rw [← hys] at H; have HYS := aC.mk hys; clear hys;
   have hsl := qa1 w5 ga j hj;
   have hcv := qb4 w5 ga j hj ys (by rw [HYS.out, List.length_set, HXL.out]) (H.out.jF aP);
   obtain ⟨sx, hsx⟩ : ∃ sx, sx = strOfNums (ys.drop (65 - j - 1)) := ⟨_, rfl⟩;
   rw [← hsx] at hcv; have HSX := aC.mk hsx; clear hsx)
 |fail)
   go_wp2
   go_ret2
   have hlt : n / 16 ^ j < 16 := by
    have := HU.out
    omega
   have hlt2 : n < 16 ^ (j + 1) := by
    rw [Nat.pow_succ, Nat.mul_comm]
    exact (Nat.div_lt_iff_lt_mul (Nat.pow_pos (by decide))).1 hlt
   refine ⟨sx, j, rfl, H.out.below, hj, hlt2, ?_⟩
   rw [HSX.out, HYS.out, set_drop _ _ _ hjx, show 65 - j - 1 + 1 = 65 - j by omega, HXT.out, ← JG, CX, JF, List.map_map, Nat.mod_eq_of_lt hlt2]
   simp [Function.comp_def]
theorem JI (n : Nat) (w : World) (hn : n < 18446744073709551616) (hT : w.cell? ⟨7, 15, none⟩ = some (.int .u8 4)) :
  Calls Tryz.prog 126 #[.int .u64 (n : Int), .int .i64 16] w fun e w' => ∃ s c, e = .returned (.string s) ∧ Below w.heap.size w w' ∧ c ≤ 15 ∧ n < 16 ^ (c + 1) ∧ byt s = hexN (c + 1) n := by
 have FB := aC.mk (JH n w hn hT)
 obtain ⟨ni, hni⟩ : ∃ ni : Int, ni = (n : Int) := ⟨_, rfl⟩
 rw [← hni] at FB ⊢
 clear hni hn
 have F2 : Calls Tryz.prog 168 #[.int .u64 ni, .int .i64 16] w fun e w' => ∃ s c, e = .returned (.string s) ∧ Below w.heap.size w w' ∧ c ≤ 15 ∧ n < 16 ^ (c + 1) ∧ byt s = hexN (c + 1) n := by
  go_enter Tryz.func168, Tryz.ntmps168
  go_wp2_with fail
  refine FB.out.mono ?_
  rintro e w1 ⟨s, c, rfl, h1, h2, h3, h4⟩
  have HH := aC.mk (And.intro h1 (And.intro h2 (And.intro h3 h4)))
  clear h1 h2 h3 h4
  go_wp2
  go_ret
  exact ⟨s, c, rfl, HH.out.1, HH.out.2.1, HH.out.2.2.1, HH.out.2.2.2⟩
 have F3 := aC.mk F2
 clear F2
 go_enter Tryz.func126, Tryz.ntmps126
 go_wp2_with fail
 refine F3.out.mono ?_
 rintro e w1 ⟨s, c, rfl, h1, h2, h3, h4⟩
 have HH := aC.mk (And.intro h1 (And.intro h2 (And.intro h3 h4)))
 clear h1 h2 h3 h4
 go_wp2
 go_ret
 exact ⟨s, c, rfl, HH.out.1, HH.out.2.1, HH.out.2.2.1, HH.out.2.2.2⟩
end Go.Proofs.U
namespace Go.Proofs
open Go.Shelf Go.RowKit
def Tryz.laysC245_ren : Go.Shelf.Ren := ⟨fun | 245 => 200 | 279 => 227 | 280 => 228 | 281 => 229 | 282 => 230 | 316 => 245 | 171 => 247 | 205 => 246 | 243 => 250 | 246 => 251 | 283 => 201 | 284 => 202 | 285 => 203 | 286 => 204 | 129 => 232 | 317 => 231 | 318 => 233 | 319 => 234 | 320 => 235 | 337 => 248 | 338 => 249 | n => n, fun | 9 => 9 | 3 => 3 | 75 => 214 | 167 => 258 | 4 => 4 | 168 => 260 | 210 => 279 | 37 => 147 | 0 => 0 | 127 => 252 | 145 => 284 | 143 => 282 | 2 => 2 | 171 => 244 | 53 => 28 | 5 => 5 | 173 => 246 | 212 => 264 | 51 => 182 | 20 => 20 | 213 => 265 | 46 => 149 | 232 => 285 | 233 => 286 | 80 => 202 | n => n, fun | 15 => 4 | 16 => 5 | 17 => 1 | 18 => 6 | 19 => 7 | n => n⟩
theorem Tryz.laysC245 : Go.Proofs.LaysC.n245 Tryz.prog Tryz.laysC245_ren := {
 mixed := by kernel_rfl
 f129 := Tryz.func232.trans (congrArg some (by kernel_rfl))
 f171 := Tryz.func247.trans (congrArg some (by kernel_rfl))
 f205 := Tryz.func246.trans (congrArg some (by kernel_rfl))
 f243 := Tryz.func250.trans (congrArg some (by kernel_rfl))
 f245 := Tryz.func200.trans (congrArg some (by kernel_rfl))
 f246 := Tryz.func251.trans (congrArg some (by kernel_rfl))
 f279 := Tryz.func227.trans (congrArg some (by kernel_rfl))
 f280 := Tryz.func228.trans (congrArg some (by kernel_rfl))
 f281 := Tryz.func229.trans (congrArg some (by kernel_rfl))
 f282 := Tryz.func230.trans (congrArg some (by kernel_rfl))
 f283 := Tryz.func201.trans (congrArg some (by kernel_rfl))
 f284 := Tryz.func202.trans (congrArg some (by kernel_rfl))
 f285 := Tryz.func203.trans (congrArg some (by kernel_rfl))
 f286 := Tryz.func204.trans (congrArg some (by kernel_rfl))
 f316 := Tryz.func245.trans (congrArg some (by kernel_rfl))
 f317 := Tryz.func231.trans (congrArg some (by kernel_rfl))
 f318 := Tryz.func233.trans (congrArg some (by kernel_rfl))
 f319 := Tryz.func234.trans (congrArg some (by kernel_rfl))
 f320 := Tryz.func235.trans (congrArg some (by kernel_rfl))
 f337 := Tryz.func248.trans (congrArg some (by kernel_rfl))
 f338 := Tryz.func249.trans (congrArg some (by kernel_rfl))
 t0 := Tryz.underlying0
 a0 := Tryz.isAgg0
 z0 := Tryz.sizeOf0
 v0 := Tryz.zeroValue0
 t2 := Tryz.underlying2
 a2 := Tryz.isAgg2
 z2 := Tryz.sizeOf2
 v2 := Tryz.zeroValue2
 t3 := Tryz.underlying3
 a3 := Tryz.isAgg3
 z3 := Tryz.sizeOf3
 v3 := Tryz.zeroValue3
 t4 := Tryz.underlying4
 a4 := Tryz.isAgg4
 z4 := Tryz.sizeOf4
 v4 := Tryz.zeroValue4
 t5 := Tryz.underlying5
 a5 := Tryz.isAgg5
 z5 := Tryz.sizeOf5
 v5 := Tryz.zeroValue5
 t9 := Tryz.underlying9
 a9 := Tryz.isAgg9
 z9 := Tryz.sizeOf9
 v9 := Tryz.zeroValue9
 t20 := Tryz.underlying20
 a20 := Tryz.isAgg20
 z20 := Tryz.sizeOf20
 v20 := Tryz.zeroValue20
 t37 := Tryz.underlying147
 a37 := Tryz.isAgg147
 z37 := Tryz.sizeOf147
 v37 := Tryz.zeroValue147
 t46 := Tryz.underlying149
 a46 := Tryz.isAgg149
 z46 := Tryz.sizeOf149
 v46 := Tryz.zeroValue149
 t51 := Tryz.underlying182
 a51 := Tryz.isAgg182
 z51 := Tryz.sizeOf182
 v51 := Tryz.zeroValue182
 t53 := Tryz.underlying28
 a53 := Tryz.isAgg28
 z53 := Tryz.sizeOf28
 v53 := Tryz.zeroValue28
 t75 := Tryz.underlying214
 a75 := Tryz.isAgg214
 z75 := Tryz.sizeOf214
 v75 := Tryz.zeroValue214
 t127 := Tryz.underlying252
 a127 := Tryz.isAgg252
 z127 := Tryz.sizeOf252
 v127 := Tryz.zeroValue252
 t143 := Tryz.underlying282
 a143 := Tryz.isAgg282
 z143 := Tryz.sizeOf282
 v143 := Tryz.zeroValue282
 t145 := Tryz.underlying284
 a145 := Tryz.isAgg284
 z145 := Tryz.sizeOf284
 v145 := Tryz.zeroValue284
 t167 := Tryz.underlying258
 a167 := Tryz.isAgg258
 z167 := Tryz.sizeOf258
 v167 := Tryz.zeroValue258
 t168 := Tryz.underlying260
 a168 := Tryz.isAgg260
 z168 := Tryz.sizeOf260
 v168 := Tryz.zeroValue260
 t171 := Tryz.underlying244
 a171 := Tryz.isAgg244
 z171 := Tryz.sizeOf244
 v171 := Tryz.zeroValue244
 t173 := Tryz.underlying246
 a173 := Tryz.isAgg246
 z173 := Tryz.sizeOf246
 v173 := Tryz.zeroValue246
 t210 := Tryz.underlying279
 a210 := Tryz.isAgg279
 z210 := Tryz.sizeOf279
 v210 := Tryz.zeroValue279
 t212 := Tryz.underlying264
 a212 := Tryz.isAgg264
 z212 := Tryz.sizeOf264
 v212 := Tryz.zeroValue264
 t213 := Tryz.underlying265
 a213 := Tryz.isAgg265
 z213 := Tryz.sizeOf265
 t232 := Tryz.underlying285
 a232 := Tryz.isAgg285
 z232 := Tryz.sizeOf285
 v232 := Tryz.zeroValue285
 t233 := Tryz.underlying286
 a233 := Tryz.isAgg286
 z233 := Tryz.sizeOf286
 v233 := Tryz.zeroValue286
 g15 := by kernel_rfl
 g16 := by kernel_rfl
 g17 := by kernel_rfl
 g18 := by kernel_rfl
 g19 := by kernel_rfl
 t80 := Tryz.underlying202
 a80 := Tryz.isAgg202
 z80 := Tryz.sizeOf202
 v80 := Tryz.zeroValue202
 i0 := by kernel_rfl
 i2 := by kernel_rfl
 i3 := by kernel_rfl
 i4 := by kernel_rfl
 i5 := by kernel_rfl
 i9 := by kernel_rfl
 i20 := by kernel_rfl
 i37 := by kernel_rfl
 i46 := by kernel_rfl
 i51 := by kernel_rfl
 i53 := by kernel_rfl
 i75 := by kernel_rfl
 i80 := by kernel_rfl
 i127 := by kernel_rfl
 i143 := by kernel_rfl
 i145 := by kernel_rfl
 i167 := by kernel_rfl
 i168 := by kernel_rfl
 i171 := by kernel_rfl
 i173 := by kernel_rfl
 i210 := by kernel_rfl
 i212 := by kernel_rfl
 i232 := by kernel_rfl
 i233 := by kernel_rfl
 m15 := by kernel_rfl
 m16 := by kernel_rfl
 m17 := by kernel_rfl
 m18 := by kernel_rfl
 m19 := by kernel_rfl
 c0 := by kernel_rfl
 c2 := by kernel_rfl
 c3 := by kernel_rfl
 c4 := by kernel_rfl
 c5 := by kernel_rfl
 c9 := by kernel_rfl
 c20 := by kernel_rfl
 c37 := by kernel_rfl
 c46 := by kernel_rfl
 c51 := by kernel_rfl
 c53 := by kernel_rfl
 c75 := by kernel_rfl
 c80 := by kernel_rfl
 c127 := by kernel_rfl
 c143 := by kernel_rfl
 c145 := by kernel_rfl
 c167 := by kernel_rfl
 c168 := by kernel_rfl
 c171 := by kernel_rfl
 c173 := by kernel_rfl
 c210 := by kernel_rfl
 c212 := by kernel_rfl
 c213 := by kernel_rfl
 c232 := by kernel_rfl
 c233 := by kernel_rfl }
theorem Tryz.strconv_toError_syntax (fn s : ByteArray) (base bits : Int) (ev : Value) (w : World) (hlim : s.size ≤ 281474976710656) (hv : w.cell? ⟨4, 0, none⟩ = some ev) (hev : ev = .nilIface ∨ ∃ te pe, ev = .iface te pe) :
 Calls Tryz.prog 200 #[.string fn, .string s, .int .i64 base, .int .i64 bits, .iface 258 (.int .i64 2)] w fun e w' => ∃ N, e = .returned (.iface 260 (.pointer (some ⟨N, 0, none⟩))) ∧ w.heap.size ≤ N ∧ w'.heap[N]? = some (.cells #[.string fn, .string s, ev] 279 (0, 0)) ∧ Below w.heap.size w w' := Any.strconv_toError_syntax Tryz.laysC245 fn s base bits ev w hlim hv hev
def Tryz.lays321_ren : Go.Shelf.Ren := ⟨fun | 321 => 225 | n => n, fun | 5 => 5 | n => n, fun | n => n⟩
theorem Tryz.lays321 : Go.Proofs.Lays.n321 Tryz.prog Tryz.lays321_ren := {
 mixed := by kernel_rfl
 f321 := Tryz.func225.trans (congrArg some (by kernel_rfl))
 t5 := Tryz.underlying5
 a5 := Tryz.isAgg5
 z5 := Tryz.sizeOf5
 v5 := Tryz.zeroValue5 }
theorem Tryz.internal_strconv_lower (c : Int) (w : World) :
 Calls Tryz.prog 225 #[.int .u8 c] w fun e w' => e = .returned (.int .u8 (bits .or .u8 c 32)) ∧ w' = w := Any.internal_strconv_lower Tryz.lays321 c w
theorem Tryz.strconv_toError_range (fn s : ByteArray) (base bits : Int) (ev : Value) (w : World) (hlim : s.size ≤ 281474976710656) (hv : w.cell? ⟨5, 0, none⟩ = some ev) (hev : ev = .nilIface ∨ ∃ te pe, ev = .iface te pe) :
 Calls Tryz.prog 200 #[.string fn, .string s, .int .i64 base, .int .i64 bits, .iface 258 (.int .i64 1)] w fun e w' => ∃ N, e = .returned (.iface 260 (.pointer (some ⟨N, 0, none⟩))) ∧ w.heap.size ≤ N ∧ w'.heap[N]? = some (.cells #[.string fn, .string s, ev] 279 (0, 0)) ∧ Below w.heap.size w w' := Any.strconv_toError_range Tryz.laysC245 fn s base bits ev w hlim hv hev
def Tryz.lays105_ren : Go.Shelf.Ren := ⟨fun | 105 => 127 | 212 => 169 | 99 => 170 | 165 => 171 | 166 => 172 | 170 => 173 | 169 => 174 | 263 => 205 | 264 => 206 | 206 => 207 | 240 => 208 | 241 => 209 | 276 => 236 | 277 => 237 | n => n, fun | 9 => 9 | 3 => 3 | 4 => 4 | 20 => 20 | 0 => 0 | 46 => 149 | 109 => 217 | 5 => 5 | 72 => 222 | 76 => 223 | 51 => 182 | 146 => 248 | 53 => 28 | 148 => 250 | 70 => 220 | 37 => 147 | 75 => 214 | 127 => 252 | 164 => 268 | 80 => 202 | n => n, fun | n => n⟩
theorem Tryz.lays105 : Go.Proofs.Lays.n105 Tryz.prog Tryz.lays105_ren := {
 mixed := by kernel_rfl
 f99 := Tryz.func170.trans (congrArg some (by kernel_rfl))
 f105 := Tryz.func127.trans (congrArg some (by kernel_rfl))
 f165 := Tryz.func171.trans (congrArg some (by kernel_rfl))
 f166 := Tryz.func172.trans (congrArg some (by kernel_rfl))
 f169 := Tryz.func174.trans (congrArg some (by kernel_rfl))
 f170 := Tryz.func173.trans (congrArg some (by kernel_rfl))
 f206 := Tryz.func207.trans (congrArg some (by kernel_rfl))
 f212 := Tryz.func169.trans (congrArg some (by kernel_rfl))
 f240 := Tryz.func208.trans (congrArg some (by kernel_rfl))
 f241 := Tryz.func209.trans (congrArg some (by kernel_rfl))
 f263 := Tryz.func205.trans (congrArg some (by kernel_rfl))
 f264 := Tryz.func206.trans (congrArg some (by kernel_rfl))
 f276 := Tryz.func236.trans (congrArg some (by kernel_rfl))
 f277 := Tryz.func237.trans (congrArg some (by kernel_rfl))
 t0 := Tryz.underlying0
 a0 := Tryz.isAgg0
 z0 := Tryz.sizeOf0
 v0 := Tryz.zeroValue0
 t3 := Tryz.underlying3
 a3 := Tryz.isAgg3
 z3 := Tryz.sizeOf3
 v3 := Tryz.zeroValue3
 t4 := Tryz.underlying4
 a4 := Tryz.isAgg4
 z4 := Tryz.sizeOf4
 v4 := Tryz.zeroValue4
 t5 := Tryz.underlying5
 a5 := Tryz.isAgg5
 z5 := Tryz.sizeOf5
 v5 := Tryz.zeroValue5
 t9 := Tryz.underlying9
 a9 := Tryz.isAgg9
 z9 := Tryz.sizeOf9
 v9 := Tryz.zeroValue9
 t20 := Tryz.underlying20
 a20 := Tryz.isAgg20
 z20 := Tryz.sizeOf20
 v20 := Tryz.zeroValue20
 t37 := Tryz.underlying147
 a37 := Tryz.isAgg147
 z37 := Tryz.sizeOf147
 v37 := Tryz.zeroValue147
 t46 := Tryz.underlying149
 a46 := Tryz.isAgg149
 z46 := Tryz.sizeOf149
 v46 := Tryz.zeroValue149
 t51 := Tryz.underlying182
 a51 := Tryz.isAgg182
 z51 := Tryz.sizeOf182
 v51 := Tryz.zeroValue182
 t53 := Tryz.underlying28
 a53 := Tryz.isAgg28
 z53 := Tryz.sizeOf28
 v53 := Tryz.zeroValue28
 t70 := Tryz.underlying220
 a70 := Tryz.isAgg220
 z70 := Tryz.sizeOf220
 v70 := Tryz.zeroValue220
 t72 := Tryz.underlying222
 a72 := Tryz.isAgg222
 z72 := Tryz.sizeOf222
 v72 := Tryz.zeroValue222
 t75 := Tryz.underlying214
 a75 := Tryz.isAgg214
 z75 := Tryz.sizeOf214
 v75 := Tryz.zeroValue214
 t76 := Tryz.underlying223
 a76 := Tryz.isAgg223
 z76 := Tryz.sizeOf223
 v76 := Tryz.zeroValue223
 t109 := Tryz.underlying217
 a109 := Tryz.isAgg217
 z109 := Tryz.sizeOf217
 v109 := Tryz.zeroValue217
 t127 := Tryz.underlying252
 a127 := Tryz.isAgg252
 z127 := Tryz.sizeOf252
 v127 := Tryz.zeroValue252
 t146 := Tryz.underlying248
 a146 := Tryz.isAgg248
 z146 := Tryz.sizeOf248
 v146 := Tryz.zeroValue248
 t148 := Tryz.underlying250
 a148 := Tryz.isAgg250
 z148 := Tryz.sizeOf250
 v148 := Tryz.zeroValue250
 t164 := Tryz.underlying268
 a164 := Tryz.isAgg268
 z164 := Tryz.sizeOf268
 v164 := Tryz.zeroValue268 }
theorem Tryz.Builder_Extra_105 : Builder.Extra Tryz.prog Tryz.lays105_ren := {
 sizeBuilder := by kernel_rfl
 liesBuilder := by kernel_rfl
 t5 := Tryz.underlying5
 a5 := Tryz.isAgg5
 z5 := Tryz.sizeOf5
 v5 := Tryz.zeroValue5
 infoByte := by kernel_rfl
 cellsByte := by kernel_rfl
 sizeByte := by kernel_rfl
 neB5 := by decide }
theorem Tryz.strings_Repeat (s : ByteArray) (c : Nat) (w : World) (hc : c ≤ 9223372036854775807) (hlen : s.size * c ≤ 140737488355328) :
 Calls Tryz.prog 127 #[.string s, .int .i64 c] w fun e w' => e = .returned (.string ⟨(Lib.repeatL s.data.toList c).toArray⟩) ∧ Below w.heap.size w w' := Any.strings_Repeat Tryz.lays105 Tryz.Builder_Extra_105 s c w hc hlen
end Go.Proofs
namespace Go.Proofs.U
open Go.RowKit Go.Proofs.aA.aK Go.Proofs.aA.aW Go.Proofs.aA.aX Go.Proofs.Sp Go.Proofs.gB
structure Gl (w : World) : Prop where
 tz : w.cell? ⟨7, 15, none⟩ = some (.int .u8 4)
 syn : ∃ ev, w.cell? ⟨4, 0, none⟩ = some ev ∧ (ev = .nilIface ∨ ∃ te pe, ev = .iface te pe)
 rng : ∃ ev, w.cell? ⟨5, 0, none⟩ = some ev ∧ (ev = .nilIface ∨ ∃ te pe, ev = .iface te pe)
theorem Gl.below {w w' : World} (h : Gl w) (hb : Below w.heap.size w w') : Gl w' := by
 obtain ⟨e1, g1, g2⟩ := h.syn
 obtain ⟨e2, g3, g4⟩ := h.rng
 exact ⟨(hb.cell (World.block_lt_of_cell? _ _ h.tz)).trans h.tz, ⟨e1, (hb.cell (World.block_lt_of_cell? _ _ g1)).trans g1, g2⟩, ⟨e2, (hb.cell (World.block_lt_of_cell? _ _ g3)).trans g3, g4⟩⟩
theorem QK : ∀ (k m n : Nat), n < 16 ^ m → hexN (k + m) n = List.replicate k 48 ++ hexN m n
 | 0, m, n, h => by simp
 | k + 1, m, n, h => by
  have h2 : n < 16 ^ (k + m) := Nat.lt_of_lt_of_le h (Nat.pow_le_pow_right (by decide) (by omega))
  rw [show k + 1 + m = (k + m) + 1 by omega, hexN, Nat.div_eq_of_lt h2, Nat.mod_eq_of_lt h2, QK k m n h]
  rfl
theorem QL : ∀ c, Lib.repeatL [48] c = List.replicate c 48
 | 0 => rfl
 | c + 1 => by rw [Lib.repeatL, QL c]; rfl
theorem name_any (n : Nat) (w : World) (hn : n < 18446744073709551616) (hG : Gl w) :
  Calls Tryz.prog 81 #[.int .u64 (n : Int)] w fun e w' => ∃ s, e = .returned (.string s) ∧ Below w.heap.size w w' ∧ byt s = hexN 16 n := by
 have F := aC.mk (JI n w hn hG.tz)
 obtain ⟨ni, hni⟩ : ∃ ni : Int, ni = (n : Int) := ⟨_, rfl⟩
 rw [← hni] at F ⊢
 clear hni hn
 go_enter Tryz.func81, Tryz.ntmps81
 go_wp2_with fail
 refine F.out.mono ?_
 rintro e w1 ⟨s, c, rfl, h1, h2, h3, h4⟩
 have hs : s.size = c + 1 := by rw [← dK, h4, oQ]
 have HS := aC.mk hs
 have HB := aC.mk h1
 have H3 := aC.mk h3
 have H4 := aC.mk h4
 have hw : wrap64 (16 - (s.size : Int)) = ((15 - c : Nat) : Int) := by
  rw [hs]
  unfold wrap64
  omega
 have hw2 : 16 - (s.size : Int) = ((15 - c : Nat) : Int) := by
  rw [hs]
  omega
 clear h1 h3 h4 hs
 obtain ⟨k, hk⟩ : ∃ k, k = 15 - c := ⟨_, rfl⟩
 rw [← hk] at hw hw2
 have HK := aC.mk hk
 have qin : k ≤ 15 := by omega
 clear hk
 go_wp2_with fail
 refine ((Tryz.strings_Repeat ⟨#[48]⟩ k _ (by omega) (by simp [ByteArray.size]; omega)).mono ?_)
 rintro e w2 ⟨rfl, hb⟩
 have HB2 := aC.mk (HB.out.trans (hb.mono HB.out.size))
 clear hb
 obtain ⟨z, hz⟩ : ∃ z : ByteArray, z = ⟨(Lib.repeatL (⟨#[48]⟩ : ByteArray).data.toList k).toArray⟩ := ⟨_, rfl⟩
 rw [← hz]
 have HZ := aC.mk (show byt z = List.replicate k 48 by rw [hz]; exact (pR _).trans (QL k))
 have hz2 : z.size + s.size ≤ 9223372036854775807 := by
  rw [HS.out, ← dK, HZ.out, List.length_replicate]
  omega
 clear hz
 go_wp2
 go_ret
 refine ⟨_, rfl, HB2.out, ?_⟩
 have hk := HK.out
 rw [AQ, HZ.out, H4.out, ← QK k (c + 1) n H3.out, show k + (c + 1) = 16 by omega]
def dgI (b : Int) : Option Int := if 48 ≤ b ∧ b ≤ 57 then some (b - 48) else if 97 ≤ bits .or .u8 b 32 ∧ bits .or .u8 b 32 ≤ 122 then some (bits .or .u8 b 32 - 87) else none
def p16 : List Int → Int → Except Int Int
 | [], a => .ok a
 | b :: r, a => match dgI b with
  | none => .error 2
  | some d => if 16 ≤ d then .error 2 else if 1152921504606846976 ≤ a then .error 1 else p16 r (a * 16 + d)
def QM : Except Int Int → Value × Value
 | .ok v => (.int .u64 v, .nilIface)
 | .error 1 => (.int .u64 18446744073709551615, .iface 258 (.int .i64 1))
 | .error _ => (.int .u64 0, .iface 258 (.int .i64 2))
def tV (s : ByteArray) : Except Int Int := if s.toList = [] then .error 2 else p16 (bytesOf s) 0
theorem qb5 (op : BinOp) (x y : Int) : 0 ≤ bits op .u8 x y ∧ bits op .u8 x y ≤ 255 := by
 have h := wf_bits op .u8 x y
 simp only [Lit.wf, Bool.and_eq_true, decide_eq_true_eq] at h
 exact ⟨h.1, h.2⟩
theorem TF {s : ByteArray} {i : Nat} (h : i < s.size) : (bytesOf s).drop i = bt s (i : Int) :: (bytesOf s).drop (i + 1) := by
 have hl : i < (bytesOf s).length := by rw [bytesOf_length]; exact h
 rw [List.drop_eq_getElem_cons hl, ← zW]
 congr 1
 simp [rd, List.getD, hl]
set_option maxHeartbeats 8000000 in
theorem TG (s : ByteArray) (w : World) (hs : s.size ≤ 9223372036854775807) :
    Calls Tryz.prog 199 #[.string s, .int .i64 16, .int .i64 64] w fun e w' => e = .returned (.tuple #[(QM (tV s)).1, (QM (tV s)).2]) ∧ Below w.heap.size w w' := by
  have kb := fun W => EN (P := Tryz.prog) 9 147 5 Tryz.underlying9 Tryz.underlying147 Tryz.underlying5 s W
  obtain ⟨R, hR⟩ : ∃ R, R = tV s := ⟨_, rfl⟩
  rw [← hR]
  have HR0 := aC.mk hR
  clear hR
  cases hse : (s.toList == ([] : List UInt8))
  · have hp : R = p16 (bytesOf s) 0 := by rw [HR0.out, tV, if_neg (beq_eq_false_iff_ne.1 hse)]
    have HP := aC.mk hp
    clear hp
    have hmx : IntKind.u64.wrap (IntKind.u64.wrap 18446744073709551616 - 1) = 18446744073709551615 := by decide +kernel
    go_enter Tryz.func199, Tryz.ntmps199
    go_wp2_with fail
    have HR := aC.mk (EO w 5 s (by omega))
    have HB := aC.mk (EP (Below.refl w.heap.size w) (Nat.le_refl _) 5 s)
    go_loopw [12, 13, 101] (fun v12 v13 qdA wr => ∃ (i : Nat) (acc : Int), v12 = .bool false ∧ v13 = .int .u64 acc ∧ qdA = .int .i64 (i : Int) ∧ i ≤ s.size ∧ 0 ≤ acc ∧ acc ≤ 18446744073709551615 ∧ aC (R = p16 ((bytesOf s).drop i) acc) ∧ aC (iM wr .u8 (some ⟨w.heap.size, 0, none⟩) s.size (bytesOf s)) ∧ aC (Below w.heap.size w wr))
      (fun _ _ qdA _ => s.size - (intOf qdA).toNat)
    case atStart => exact ⟨0, 0, rfl, rfl, rfl, by omega, by omega, by omega, HP, HR, HB⟩
    case round =>
      clear HR HB HP
      obtain ⟨i, acc, rfl, rfl, rfl, hi, ha0, ha1, HP, HR, HB⟩ := hrel
      by_cases hlt : i < s.size
      · obtain ⟨ad, he, hc⟩ := HR.out.at_ (i : Int) (by omega) (by omega)
        injection he with he
        subst he
        rw [add_plain] at hc
        simp only [Int.toNat_natCast, zW] at hc
        have hp := HP.out
        rw [TF hlt, p16] at hp
        have hbr := tZ s (i : Int)
        obtain ⟨b, hb⟩ : ∃ b, b = bt s (i : Int) := ⟨_, rfl⟩
        rw [← hb] at hc hp hbr
        clear hb HP
        obtain ⟨hb0, hb1⟩ := hbr
        have h0 : (0 : Int) ≤ (i : Int) := by omega
        have h1 : (i : Int) < (s.size : Int) := by omega
        obtain ⟨L, hL⟩ : ∃ L, L = bits .or .u8 b 32 := ⟨_, rfl⟩
        have hL0 : 0 ≤ L ∧ L ≤ 255 := by rw [hL]; exact qb5 _ _ _
        obtain ⟨hL0, hL1⟩ := hL0
        have LW := aC.mk (fun w => hL ▸ Tryz.internal_strconv_lower b w)
        rw [dgI, ← hL] at hp
        clear hL
        have HRR := aC.mk hp
        clear hp
        by_cases hd : 48 ≤ b ∧ b ≤ 57
        · have hq : R = (if 16 ≤ b - 48 then .error 2 else if 1152921504606846976 ≤ acc then .error 1 else p16 ((bytesOf s).drop (i + 1)) (acc * 16 + (b - 48))) := by
            rw [HRR.out, if_pos hd]
          rw [if_neg (by omega)] at hq
          obtain ⟨hd0, hd1⟩ := hd
          clear HRR
          by_cases hbig : 1152921504606846976 ≤ acc
          · rw [if_pos hbig] at hq
            subst hq
            go_wp2
            go_ret2
            exact ⟨rfl, HB.out⟩
          · rw [if_neg hbig] at hq
            have HQ := aC.mk hq
            clear hq
            go_wp2
            refine ⟨⟨i + 1, acc * 16 + (b - 48), rfl, rfl, by congr 1, by omega, by omega, by omega, HQ, HR, HB⟩, by simp [intOf]; omega⟩
        · by_cases hl : 97 ≤ L ∧ L ≤ 122
          · have hq : R = (if 16 ≤ L - 87 then .error 2 else if 1152921504606846976 ≤ acc then .error 1 else p16 ((bytesOf s).drop (i + 1)) (acc * 16 + (L - 87))) := by
              rw [HRR.out, if_neg hd, if_pos hl]
            clear HRR
            obtain ⟨hl0, hl1⟩ := hl
            have hdd : ¬ 48 ≤ b ∨ (48 ≤ b ∧ ¬ b ≤ 57) := by omega
            by_cases hx : 16 ≤ L - 87
            · rw [if_pos hx] at hq
              subst hq
              cases qdB : (b == 95) <;> rcases hdd with hd1 | ⟨hd1, hd2⟩
              all_goals
                clear hd
                go_wp2_with (go_at_call 225; refine (LW.out _).mono ?_; rintro e w' ⟨rfl, rfl⟩)
                go_ret2
                exact ⟨rfl, HB.out⟩
            · rw [if_neg hx] at hq
              by_cases hbig : 1152921504606846976 ≤ acc
              · rw [if_pos hbig] at hq
                subst hq
                cases qdB : (b == 95) <;> rcases hdd with hd1 | ⟨hd1, hd2⟩
                all_goals
                  clear hd
                  go_wp2_with (go_at_call 225; refine (LW.out _).mono ?_; rintro e w' ⟨rfl, rfl⟩)
                  go_ret2
                  exact ⟨rfl, HB.out⟩
              · rw [if_neg hbig] at hq
                have HQ := aC.mk hq
                clear hq
                cases qdB : (b == 95) <;> rcases hdd with hd1 | ⟨hd1, hd2⟩
                all_goals
                  clear hd
                  go_wp2_with (go_at_call 225; refine (LW.out _).mono ?_; rintro e w' ⟨rfl, rfl⟩)
                  refine ⟨⟨i + 1, acc * 16 + (L - 87), rfl, by congr 1; omega, by congr 1, by omega, by omega, by omega, HQ, HR, HB⟩, by simp [intOf]; omega⟩
          · have hq : R = .error 2 := by rw [HRR.out, if_neg hd, if_neg hl]
            clear HRR
            subst hq
            have hdd : ¬ 48 ≤ b ∨ (48 ≤ b ∧ ¬ b ≤ 57) := by omega
            have hll : ¬ 97 ≤ L ∨ (97 ≤ L ∧ ¬ L ≤ 122) := by omega
            clear hd hl
            cases qdB : (b == 95) <;> rcases hdd with hd1 | ⟨hd1, hd2⟩ <;> rcases hll with hl1 | ⟨hl1, hl2⟩
            all_goals
              go_wp2_with (go_at_call 225; refine (LW.out _).mono ?_; rintro e w' ⟨rfl, rfl⟩)
              go_ret2
              exact ⟨rfl, HB.out⟩
      · have hq : R = .ok acc := by
          rw [HP.out, List.drop_eq_nil_of_le (by rw [bytesOf_length]; omega)]
          rfl
        subst hq
        go_wp2
        go_ret2
        exact ⟨rfl, HB.out⟩
  · have hp : R = .error 2 := by rw [HR0.out, tV, if_pos (beq_iff_eq.1 hse)]
    subst hp
    go_enter Tryz.func199, Tryz.ntmps199
    go_wp2
    go_ret2
    exact ⟨rfl, Below.refl _ _⟩
theorem qdC : ∀ d : Nat, d < 16 → dgI ((F5 d).toNat : Int) = some (d : Int) := by
 intro d hd
 rcases d with _ | _ | _ | _ | _ | _ | _ | _ | _ | _ | _ | _ | _ | _ | _ | _ | d
 all_goals first | (decide +kernel) | omega
theorem VW : ∀ (k n acc : Nat), n < 16 ^ k → acc * 16 ^ k + n < 18446744073709551616 → p16 ((hexN k n).map fun b => (b.toNat : Int)) (acc : Int) = .ok ((acc * 16 ^ k + n : Nat) : Int)
 | 0, n, acc, h, h2 => by
  have : n = 0 := by simpa using h
  subst this
  simp [hexN, p16]
 | k + 1, n, acc, h, h2 => by
  have hp : 0 < 16 ^ k := Nat.pow_pos (by decide)
  have hd : n / 16 ^ k < 16 := by
   rw [Nat.div_lt_iff_lt_mul hp]
   rw [Nat.pow_succ, Nat.mul_comm] at h
   exact h
  have hm := Nat.div_add_mod n (16 ^ k)
  have hr := Nat.mod_lt n hp
  have e16 : acc * 16 ^ (k + 1) = acc * 16 * 16 ^ k := by rw [Nat.pow_succ, Nat.mul_assoc, Nat.mul_comm (16 ^ k) 16]
  rw [e16] at h2
  have ha : acc < 1152921504606846976 := by
   have h3 : acc * 16 * 1 ≤ acc * 16 * 16 ^ k := Nat.mul_le_mul_left _ hp
   omega
  have hsum : (acc * 16 + n / 16 ^ k) * 16 ^ k + n % 16 ^ k = acc * 16 * 16 ^ k + n := by
   rw [Nat.add_mul, Nat.add_assoc, Nat.mul_comm (n / 16 ^ k)]
   omega
  have ih := VW k (n % 16 ^ k) (acc * 16 + n / 16 ^ k) hr (by rw [hsum]; exact h2)
  rw [hsum] at ih
  rw [hexN, List.map_cons, p16, qdC _ (Nat.mod_lt _ (by decide)), Nat.mod_eq_of_lt hd]
  simp only
  rw [if_neg (by omega), if_neg (by omega), e16]
  have ec : ((acc : Int) * 16 + ((n / 16 ^ k : Nat) : Int)) = ((acc * 16 + n / 16 ^ k : Nat) : Int) := by
   rw [Int.natCast_add, Int.natCast_mul]
   rfl
  rw [ec]
  exact ih
theorem D8 {s : ByteArray} {n : Nat} (h : hexN 16 n = byt s) (hn : n < 18446744073709551616) : tV s = .ok (n : Int) := by
 have hne : ¬ s.toList = [] := by
  intro e
  rw [ByteArray.toList_eq] at e
  have h2 : byt s = [] := e
  rw [h2] at h
  have := congrArg List.length h
  rw [oQ] at this
  cases this
 rw [tV, if_neg hne]
 have e : bytesOf s = (hexN 16 n).map fun b => (b.toNat : Int) := by rw [h]; rfl
 have := VW 16 n 0 (by have : (16 : Nat) ^ 16 = 18446744073709551616 := (by decide); omega) (by omega)
 rw [e]
 simpa using this
theorem qa3 {s : ByteArray} {k : Int} (h : tV s = .error k) : k = 1 ∨ k = 2 := by
 have key : ∀ (l : List Int) (a : Int), p16 l a = .error k → k = 1 ∨ k = 2 := by
  intro l
  induction l with
  | nil => intro a h; simp [p16] at h
  | cons b r ih =>
   intro a h
   rw [p16] at h
   split at h
   ·injection h with h
    exact .inr h.symm
   ·split at h
    ·injection h with h
     exact .inr h.symm
    ·split at h
     ·injection h with h
      exact .inl h.symm
     ·exact ih _ h
 rw [tV] at h
 split at h
 ·injection h with h
  exact .inr h.symm
 ·exact key _ _ h
theorem LJ : ∀ (l : List Int) (a v : Int), 0 ≤ a → a ≤ 18446744073709551615 → (∀ b ∈ l, 0 ≤ b ∧ b ≤ 255) → p16 l a = .ok v → 0 ≤ v ∧ v ≤ 18446744073709551615
 | [], a, v, h0, h1, hb, h => by
  simp only [p16, Except.ok.injEq] at h
  omega
 | b :: r, a, v, h0, h1, hb, h => by
  rw [p16] at h
  split at h
  ·cases h
  ·rename_i d hd
   split at h
   ·cases h
   ·split at h
    ·cases h
    ·have hd0 : 0 ≤ d := by
      rw [dgI] at hd
      split at hd
      ·injection hd with hd
       omega
      ·split at hd
       ·injection hd with hd
        omega
       ·cases hd
     exact LJ r _ v (by omega) (by omega) (fun x hx => hb x (by simp [hx])) h
theorem QN {s : ByteArray} {v : Int} (h : tV s = .ok v) : 0 ≤ v ∧ v ≤ 18446744073709551615 := by
 rw [tV] at h
 split at h
 ·cases h
 ·refine LJ _ 0 v (by omega) (by omega) (fun b hb => ?_) h
  simp only [bytesOf, List.mem_map] at hb
  obtain ⟨c, _, rfl⟩ := hb
  have := c.toNat_lt
  omega
set_option maxHeartbeats 4000000 in
theorem parse_any (s : ByteArray) (w : World) (hs : s.size ≤ 65536) (hG : Gl w) :
  Calls Tryz.prog 165 #[.string s, .int .i64 16, .int .i64 64] w fun e w' => ∃ v x, e = .returned (.tuple #[.int .u64 v, x]) ∧ (∀ n, tV s = .ok n → v = n ∧ x = .nilIface) ∧ (∀ k, tV s = .error k → ∃ t y, x = .iface t y) ∧ Below w.heap.size w w' := by
 have IP := aC.mk (TG s w (by omega))
 obtain ⟨e1, g1, g2⟩ := hG.syn
 obtain ⟨e2, g3, g4⟩ := hG.rng
 cases hp : tV s with
 | ok n =>
  have HP := aC.mk (show (QM (tV s)).1 = .int .u64 n ∧ (QM (tV s)).2 = .nilIface by rw [hp]; exact ⟨rfl, rfl⟩)
  go_enter Tryz.func165, Tryz.ntmps165
  go_wp2_with fail
  refine IP.out.mono ?_
  rintro e w1 ⟨rfl, hb⟩
  have HB := aC.mk hb
  clear hb
  rw [HP.out.1, HP.out.2]
  go_wp2
  go_ret2
  exact ⟨_, _, rfl, (fun m h => by cases h; exact ⟨rfl, rfl⟩), (fun k h => by cases h), HB.out⟩
 | error k =>
  rcases qa3 hp with rfl | rfl
  ·have HP := aC.mk (show (QM (tV s)).1 = .int .u64 18446744073709551615 ∧ (QM (tV s)).2 = .iface 258 (.int .i64 1) by rw [hp]; exact ⟨rfl, rfl⟩)
   go_enter Tryz.func165, Tryz.ntmps165
   go_wp2_with fail
   refine IP.out.mono ?_
   rintro e w1 ⟨rfl, hb⟩
   have HB := aC.mk hb
   clear hb
   rw [HP.out.1, HP.out.2]
   go_wp2_with fail
   refine (Tryz.strconv_toError_range _ s 16 64 e2 _ (by omega) ((HB.out.cell (World.block_lt_of_cell? _ _ g3)).trans g3) g4).mono ?_
   rintro e w2 ⟨NN, rfl, _, _, hb⟩
   have HB2 := aC.mk (HB.out.trans (hb.mono HB.out.size))
   clear hb
   go_wp2
   go_ret2
   exact ⟨_, _, rfl, (fun m h => by cases h), (fun k h => ⟨_, _, rfl⟩), HB2.out⟩
  ·have HP := aC.mk (show (QM (tV s)).1 = .int .u64 0 ∧ (QM (tV s)).2 = .iface 258 (.int .i64 2) by rw [hp]; exact ⟨rfl, rfl⟩)
   go_enter Tryz.func165, Tryz.ntmps165
   go_wp2_with fail
   refine IP.out.mono ?_
   rintro e w1 ⟨rfl, hb⟩
   have HB := aC.mk hb
   clear hb
   rw [HP.out.1, HP.out.2]
   go_wp2_with fail
   refine (Tryz.strconv_toError_syntax _ s 16 64 e1 _ (by omega) ((HB.out.cell (World.block_lt_of_cell? _ _ g1)).trans g1) g2).mono ?_
   rintro e w2 ⟨NN, rfl, _, _, hb⟩
   have HB2 := aC.mk (HB.out.trans (hb.mono HB.out.size))
   clear hb
   go_wp2
   go_ret2
   exact ⟨_, _, rfl, (fun m h => by cases h), (fun k h => ⟨_, _, rfl⟩), HB2.out⟩
theorem CZ : most = 4611686018427387904 := rfl
theorem JJ {a b : ByteArray} : (a.toList == b.toList) = true ↔ byt a = byt b := by
 rw [beq_iff_eq, ByteArray.toList_eq, ByteArray.toList_eq]
 exact Iff.rfl
set_option maxHeartbeats 4000000 in
theorem TI (s : ByteArray) (w : World) (hs : s.size ≤ 65536) (hG : Gl w) :
  Calls Tryz.prog 123 #[.string s] w fun e w' => ∃ v, e = .returned (.tuple #[.int .u64 v, .bool (numOf s).isSome]) ∧ (∀ n, numOf s = some n → v = (n : Int)) ∧ Below w.heap.size w w' := by
 have PA := aC.mk (parse_any s w hs hG)
 have HG := aC.mk hG
 cases hp : tV s with
 | error k =>
  have hnone : numOf s = none := by
   cases h : numOf s with
   | none => rfl
   | some n =>
    obtain ⟨h1, h2⟩ := lU.1 h
    rw [D8 h2 (by have := CZ; omega)] at hp
    cases hp
  have HP := aC.mk hp
  clear hp hG
  rw [hnone]
  go_enter Tryz.func123, Tryz.ntmps123
  go_wp2_with fail
  refine PA.out.mono ?_
  rintro e w1 ⟨v, x, rfl, h1, h2, hb⟩
  obtain ⟨t, y, rfl⟩ := h2 k HP.out
  clear h1 h2
  have HB := aC.mk hb
  clear hb
  go_wp2
  go_ret2
  exact ⟨v, rfl, (fun n h => by cases h), HB.out⟩
 | ok m =>
  obtain ⟨hm0, hm1⟩ := QN hp
  obtain ⟨n, rfl⟩ := Int.eq_ofNat_of_zero_le hm0
  have HP := aC.mk hp
  have qdD : n < 18446744073709551616 := by omega
  by_cases hm : n ≤ most
  ·have NA := aC.mk (fun w (h : Gl w) => name_any n w qdD h)
   have hmi : (n : Int) ≤ 4611686018427387904 := by
    rw [CZ] at hm
    omega
   obtain ⟨ni, hni⟩ : ∃ ni : Int, ni = (n : Int) := ⟨_, rfl⟩
   rw [← hni] at NA HP hmi
   have HNI := aC.mk hni
   have HM := aC.mk hm
   clear hm0 hm1 hp qdD hni hm hG
   obtain ⟨ok, hok⟩ : ∃ ok, ok = (numOf s).isSome := ⟨_, rfl⟩
   rw [← hok]
   have HOK := aC.mk hok
   clear hok
   go_enter Tryz.func123, Tryz.ntmps123
   go_wp2_with fail
   refine PA.out.mono ?_
   rintro e w1 ⟨v, x, rfl, h1, h2, hb⟩
   obtain ⟨rfl, rfl⟩ := h1 ni HP.out
   clear h1 h2
   have HB := aC.mk hb
   clear hb
   go_wp2_with fail
   refine (NA.out _ (HG.out.below HB.out)).mono ?_
   rintro e w2 ⟨z, rfl, hb, hz⟩
   have HB2 := aC.mk (HB.out.trans (hb.mono HB.out.size))
   have HZ := aC.mk hz
   clear hb hz
   cases hq : (z.toList == s.toList)
   ·have hnone : numOf s = none := by
     cases h : numOf s with
     | none => rfl
     | some k =>
      exfalso
      obtain ⟨h1, h2⟩ := lU.1 h
      have h3 := HP.out
      rw [D8 h2 (by have := CZ; omega)] at h3
      injection h3 with h3
      rw [HNI.out] at h3
      have : k = n := by omega
      rw [this, ← HZ.out, ← JJ] at h2
      rw [h2] at hq
      cases hq
    have HNN := aC.mk hnone
    obtain rfl : ok = false := by rw [HOK.out, hnone]; rfl
    clear hnone
    go_wp2
    go_ret2
    exact ⟨_, rfl, (fun k h => by rw [HNN.out] at h; cases h), HB2.out⟩
   ·have hsome : numOf s = some n := lU.2 ⟨HM.out, by rw [← HZ.out]; exact JJ.1 hq⟩
    have HNN := aC.mk hsome
    obtain rfl : ok = true := by rw [HOK.out, hsome]; rfl
    clear hsome
    go_wp2
    go_ret2
    exact ⟨_, rfl, (fun k h => by rw [HNN.out] at h; injection h with h; rw [HNI.out, h]), HB2.out⟩
  ·have hnone : numOf s = none := by
    cases h : numOf s with
    | none => rfl
    | some k =>
     exfalso
     obtain ⟨h1, h2⟩ := lU.1 h
     have h3 := HP.out
     rw [D8 h2 (by have := CZ; omega)] at h3
     injection h3 with h3
     have : k = n := by omega
     omega
   have hmi : (4611686018427387904 : Int) < (n : Int) := by
    rw [CZ] at hm
    omega
   obtain ⟨ni, hni⟩ : ∃ ni : Int, ni = (n : Int) := ⟨_, rfl⟩
   rw [← hni] at HP hmi
   clear hm0 hm1 hp qdD hni hm hG
   rw [hnone]
   have hmb : decide (ni ≤ 4611686018427387904) = false := decide_eq_false (Int.not_le.2 hmi)
   clear hmi hnone
   go_enter Tryz.func123, Tryz.ntmps123
   go_wp2_with fail
   refine PA.out.mono ?_
   rintro e w1 ⟨v, x, rfl, h1, h2, hb⟩
   obtain ⟨rfl, rfl⟩ := h1 ni HP.out
   clear h1 h2
   have HB := aC.mk hb
   clear hb
   go_wp2
   go_ret2
   exact ⟨_, rfl, (fun k h => by cases h), HB.out⟩
end Go.Proofs.U
namespace Go.Proofs.U
open Go.RowKit Go.Proofs.aA.aK Go.Proofs.aA.aW Go.Proofs.aA.aX Go.Proofs.Sp
theorem o9 {W : World} {ok1 ok2 : Nat → Prop} {x : S67} {cs : List Value} (h : k67.M W 0 ok1 x cs) : k67.M W 0 ok2 x cs := by
 obtain rfl := KU h
 exact xW _ _ _ _
theorem qdE {W : World} {ad : Addr} {n i : Nat} {l : List S67} {x : S67} (h : Kd.C k67 W (some ad) n l) (hx : l[i]? = some x) :
  W.cell? (ad.add (i * 3)) = some (.string x.f0) ∧ W.cell? ⟨(ad.add (i * 3)).block, (ad.add (i * 3)).off + 1, none⟩ = some (.string x.f1) ∧ W.cell? ⟨(ad.add (i * 3)).block, (ad.add (i * 3)).off + 2, none⟩ = some (.int .i64 x.f2) := by
 have hi := (List.getElem?_eq_some_iff.1 hx).1
 obtain ⟨ad2, e, h0, h1, h2⟩ := IU h (i : Int) (by omega) (by have := h.1; omega)
 injection e with e
 subst e
 rw [gZ hx] at h0 h1 h2
 simp only [Int.toNat_natCast] at h0 h1 h2
 exact ⟨h0, h1, h2⟩
end Go.Proofs.U
namespace Go.Proofs.U
open Go.RowKit Go.Proofs.aA.aK Go.Proofs.aA.aW Go.Proofs.aA.aX Go.Proofs.Sp Go.Proofs.gB
theorem qb6 {b W : World} {rs : List Res} {α : Type} {d : Kd α} {e : TypeId} {v : Value} {l : List α} (H : Sep b W rs) (hm : row d e v l ∈ rs)
  (hd : ∀ {base : Nat} {ok1 ok2 : Nat → Prop} {x : α} {cs : List Value}, d.M W 0 ok1 x cs → d.M W base ok2 x cs) : Kd.R d e W b.heap.size (fun _ => True) v l := by
 have hb := H.base _ hm
 obtain ⟨h0, inner, ho, hr⟩ := H.qay hm
 refine ⟨fun _ _ => trivial, inner, ?_, hr.uD (fun _ _ hp => hd hp)⟩
 obtain ⟨h1, h2⟩ := ho
 rcases h2 with ⟨rfl, h2⟩ | ⟨g, cap, cur, rfl, hg, h3⟩
 ·exact ⟨h1, .inl ⟨rfl, h2⟩⟩
 ·exact ⟨h1, .inr ⟨g, cap, cur, rfl, hb g rfl, h3⟩⟩
theorem ZF {W : World} {base : Nat} {ok1 ok2 : Nat → Prop} {x : S62} {cs : List Value} (h : k62.M W 0 ok1 x cs) : k62.M W base ok2 x cs := by
 obtain rfl := YS h
 exact VP _ _ _ _
theorem qa4 : Flat k62 := ZF
def dX : Kd Pl := Kd.iso (Kd.pair Kd.string (Kd.pair Kd.string (Kd.pair (Kd.int .i64) (Kd.int .u64)))) (fun p : Pl => (p.1.f0, p.1.f1, p.1.f2, (p.2 : Int)))
theorem ZG {w : World} {x : Pl} {cs : List Value} (h : dX.K w x cs) : cs = [.string x.1.f0, .string x.1.f1, .int .i64 x.1.f2, .int .u64 (x.2 : Int)] := by
 obtain ⟨_, _, rfl, rfl, ⟨_, _, rfl, rfl, ⟨_, _, rfl, rfl, rfl⟩⟩⟩ := h
 exact rfl
theorem TJ {w : World} {base : Nat} {ok : Nat → Prop} {x : Pl} {cs : List Value} (h : dX.M w base ok x cs) : cs = [.string x.1.f0, .string x.1.f1, .int .i64 x.1.f2, .int .u64 (x.2 : Int)] := by
 obtain ⟨_, _, rfl, rfl, ⟨_, _, rfl, rfl, ⟨_, _, rfl, rfl, rfl⟩⟩⟩ := h
 exact rfl
theorem QO (w : World) (base : Nat) (ok : Nat → Prop) (x : Pl) : dX.M w base ok x [.string x.1.f0, .string x.1.f1, .int .i64 x.1.f2, .int .u64 (x.2 : Int)] := ⟨[.string x.1.f0], [.string x.1.f1, .int .i64 x.1.f2, .int .u64 (x.2 : Int)], rfl, rfl, ⟨[.string x.1.f1], [.int .i64 x.1.f2, .int .u64 (x.2 : Int)], rfl, rfl, ⟨[.int .i64 x.1.f2], [.int .u64 (x.2 : Int)], rfl, rfl, rfl⟩⟩⟩
theorem JK {W : World} {base : Nat} {ok1 ok2 : Nat → Prop} {x : Pl} {cs : List Value} (h : dX.M W 0 ok1 x cs) : dX.M W base ok2 x cs := by
 obtain rfl := TJ h
 exact QO _ _ _ _
theorem uK : Flat dX := JK
def z139 : Pl := (z67, 0)
theorem sV {w : World} {ad : Addr} {n i : Nat} {l : List Pl} {x : Pl} (h : Kd.C dX w (some ad) n l) (hx : l[i]? = some x) :
  w.cell? (ad.add (i * 4)) = some (.string x.1.f0) ∧ w.cell? ⟨(ad.add (i * 4)).block, (ad.add (i * 4)).off + 1, none⟩ = some (.string x.1.f1) ∧ w.cell? ⟨(ad.add (i * 4)).block, (ad.add (i * 4)).off + 2, none⟩ = some (.int .i64 x.1.f2) ∧ w.cell? ⟨(ad.add (i * 4)).block, (ad.add (i * 4)).off + 3, none⟩ = some (.int .u64 (x.2 : Int)) := by
 have hi := (List.getElem?_eq_some_iff.1 hx).1
 obtain ⟨ad2, c, e, _, hK, hc0⟩ := Kd.yL h z139 (i : Int) (by omega) (by have := h.1; omega)
 injection e with e
 subst e
 have hg : l.getD i z139 = x := by simp [List.getD, hx]
 simp only [Int.toNat_natCast] at hK hc0
 rw [hg] at hK
 have hc : ∀ j u, c[j]? = some u → w.cell? (ad.add (i * 4 + j)) = some u := hc0
 obtain rfl := ZG hK
 exact ⟨hc 0 _ rfl, by rw [← kT _ _ 1 (by omega)]; exact hc 1 _ rfl, by rw [← kT _ _ 2 (by omega)]; exact hc 2 _ rfl, by rw [← kT _ _ 3 (by omega)]; exact hc 3 _ rfl⟩
theorem D9 {w : World} {A : Option Addr} {n : Nat} {l : List Pl} (h : Kd.C dX w A n l) (hn : 0 < n) : ∃ ad, A = some ad := by
 obtain ⟨ad2, c, e, _⟩ := Kd.yL h z139 0 (by omega) (by omega)
 exact ⟨ad2, e⟩
theorem qb7 : (Tryz.prog.info? 139).map (fun i => (i.zero, i.size, i.bytes)) = some (some (.agg #[(.string ⟨#[]⟩), (.string ⟨#[]⟩), (.int .i64 0), (.int .u64 0)]), 4, 48) := by kernel_rfl
theorem qb8 (N : ByteArray → Option Nat) {l : List S67} {i : Nat} {x : S67} (h : l[i]? = some x) : (l.take (i + 1)).filterMap (fun f => (N f.f0).map fun n => (f, n)) = (l.take i).filterMap (fun f => (N f.f0).map fun n => (f, n)) ++ ((N x.f0).map fun n => (x, n)).toList := by
 have e1 : l.take (i + 1) = l.take i ++ [x] := by rw [List.take_add_one, h]; rfl
 rw [e1, List.filterMap_append, List.filterMap_cons, List.filterMap_nil]
 cases N x.f0 <;> rfl
theorem EZ {l : List S67} {i : Nat} {x : S67} (h : l[i]? = some x) : aN (l.take (i + 1)) = aN (l.take i) ++ ((numOf x.f0).map fun n => (x, n)).toList := qb8 numOf h
theorem oM (l : List S67) : (aN l).length ≤ l.length := List.length_filterMap_le _ _
set_option maxHeartbeats 4000000 in
theorem places_any (A : Option Addr) (c : Nat) (l : List S67) (dn : Bool) (fu fa : Int) (w : World) (hr : Kd.C k67 w A l.length l) (hc : l.length ≤ c) (hlen : l.length ≤ 64) (hnm : ∀ x ∈ l, x.f0.size ≤ 65536) (hG : Gl w) :
  Calls Tryz.prog 79 #[.agg #[.slice A l.length c, .bool dn, .int .i64 fu, .int .i64 fa]] w fun e w' => ∃ v_ : Value, e = .returned v_ ∧ Kd.R dX 139 w' w.heap.size (fun _ => True) v_ (aN l) ∧ Below w.heap.size w w' := by
 have HRp := aC.mk hr
 have HCp := aC.mk hc
 have HNM := aC.mk hnm
 have HG := aC.mk hG
 clear hr hc hnm hG
 have H := aC.mk (Sep.start w)
 go_enter Tryz.func79, Tryz.ntmps79
 go_wp2_with (first
 |((with_reducible refine aU (N := 1) rfl ?_);
   refine bK rfl H (cs := [.slice A l.length c, .bool dn, .int .i64 fu, .int .i64 fa]) (t := 27) ?hr ?_;
   (case hr => first | (go_simp; done) | (go_simp; rfl));
   intro gd wd1 n_;
   simp only [Act.put, zA, zZ, zS];
   clear H;
   have H := n_;
   clear n_;
   have c_d := H.out.cell (g := gd) aP)
 |fail)
 go_loopw [3, 11] (fun v3 v11 wr => ∃ (i : Nat) (o : List Pl) (Ao : Option Addr) (co : Nat), v3 = .slice Ao (o).length co ∧ v11 = .int .i64 (i : Int) ∧ i ≤ l.length ∧ aC (o = aN (l.take i)) ∧ aC (Sep w wr [box gd [.slice A l.length c, .bool dn, .int .i64 fu, .int .i64 fa] 27, row dX 139 (.slice Ao (o).length co) o]))
  (fun _ v11 _ => l.length - (intOf v11).toNat)
 case atStart => exact ⟨0, [], none, 0, rfl, rfl, by omega, ⟨rfl⟩, ⟨(Sep.eU H.out).perm (List.Perm.swap _ _ _)⟩⟩
 case round =>
  clear H c_d
  obtain ⟨i, o, Ao, co, rfl, rfl, hi, HO, H⟩ := hrel
  have c_d := H.out.cell (g := gd) aP
  by_cases hil : i < l.length
  ·
   obtain ⟨x, hx⟩ : ∃ x, l[i]? = some x := ⟨_, List.getElem?_eq_getElem hil⟩
   obtain ⟨ad, e1⟩ : ∃ ad, A = some ad := (IU HRp.out (i : Int) (by omega) (by omega)).imp fun _ h => h.1
   subst e1
   obtain ⟨h0, h1, h2⟩ := qdE (H.out.came HRp.out) hx
   have HX := aC.mk hx
   have HXM := aC.mk (List.mem_of_getElem? hx)
   clear hx
   have hi0 : (0 : Int) ≤ (i : Int) := by omega
   have hi1 : (i : Int) < (l.length : Int) := by omega
   have HOL : aC (o.length ≤ 64) := ⟨by rw [HO.out]; have h := oM (l.take i); rw [List.length_take] at h; omega⟩
   go_wp2_with (first
 |((with_reducible refine aU (N := 5) rfl ?_);
   refine bK rfl H (cs := [.string ⟨#[]⟩, .string ⟨#[]⟩, .int .i64 0]) (t := 67) ?hr ?_;
   (case hr => first | (go_simp; done) | (go_simp; rfl));
   intro gf wd2 n_;
   simp only [Act.put, zA, zZ, zS];
   clear H c_d;
   have H := n_;
   clear n_;
   have c_f := H.out.cell (g := gf) aP;
   have z_f := H.out.frozen (g := gf) aP;
   have c_d := H.out.cell (g := gd) mem1)
 |((with_reducible refine aV (t := 67) (p := 5) rfl ?_);
   refine bH (rs1 := [box gf [.string x.f0, .string x.f1, .int .i64 x.f2] 67, box gd [.slice (some ad) l.length c, .bool dn, .int .i64 fu, .int .i64 fa] 27, row dX 139 (.slice Ao (o).length co) o]) rfl (t := 67) (p := 5) rfl rfl ?hr (H1 := (Sep.set0 (Sep.set0 (Sep.set0 H.out 0 (.string x.f0) rfl) 1 (.string x.f1) rfl) 2 (.int .i64 x.f2) rfl)) ?_;
   (case hr => first | (go_simp; done) | (go_simp; rfl));
   intro wd3 n_;
   clear H c_f z_f c_d;
   have H := n_;
   clear n_;
   have c_f := H.out.cell (g := gf) aP;
   have z_f := H.out.frozen (g := gf) aP;
   have c_d := H.out.cell (g := gd) mem1;
   clear h0 h1 h2)
 |fail)
   refine (TI x.f0 _ (HNM.out x HXM.out) (HG.out.below H.out.below)).mono ?_
   rintro e wd4 ⟨v, rfl, hv, hb_⟩
   have n_ : aC (Sep w wd4 [box gf [.string x.f0, .string x.f1, .int .i64 x.f2] 67, box gd [.slice (some ad) l.length c, .bool dn, .int .i64 fu, .int .i64 fa] 27, row dX 139 (.slice Ao (o).length co) o]) := ⟨H.out.step hb_⟩
   clear H c_f z_f c_d
   have H := n_
   clear n_
   have c_f := H.out.cell (g := gf) aP
   have z_f := H.out.frozen (g := gf) aP
   have c_d := H.out.cell (g := gd) mem1
   clear hb_
   cases hno : numOf x.f0
   ·
    have HNO := aC.mk hno
    clear hno hv
    rw [show (none : Option Nat).isSome = false from rfl]
    go_wp2_with fail
    refine ⟨⟨i + 1, o, Ao, co, rfl, by congr 1, by omega, ⟨?_⟩, ⟨?_⟩⟩, by simp [intOf]; omega⟩
    ·
     rw [EZ HX.out, HNO.out, HO.out]
     simp
    ·
     exact (Sep.eG H.out)
   ·
    rename_i k
    obtain rfl := hv k hno
    have HNO := aC.mk hno
    clear hno hv
    rw [show (some k : Option Nat).isSome = true from rfl]
    go_wp2_with (first
 |((with_reducible refine jC (b := .append) (xs := #[.tmp 22, .tmp 26]) rfl ?_); at_builtin;
   refine qaz dX uK rfl (.tmp 22) (.tmp 26) 127 139 (.agg #[(.string ⟨#[]⟩), (.string ⟨#[]⟩), (.int .i64 0), (.int .u64 0)]) 48 rfl Tryz.underlying127 qb7 rfl (by decide) (by omega) (.slice Ao (o).length co) _ (((x, k) : Pl)) [.string x.f0, .string x.f1, .int .i64 x.f2, .int .u64 (k : Int)] ?hs ?hx ?hp H ?hl ?_;
   (case hs => first | rfl | (go_simp; done) | (simp; rfl));
   (case hx => first | (go_simp; done) | (go_simp; rfl));
   (case hp => exact QO _ _ _ (x, k));
   (case hl => (have := HOL.out; (try simp only [List.length_append, List.length_cons, List.length_nil]); omega));
   intro Ao2 co2 wd5 n_;
   clear H c_f z_f c_d;
   have H := n_;
   clear n_;
   have c_f := H.out.cell (g := gf) aP;
   have z_f := H.out.frozen (g := gf) aP;
   have c_d := H.out.cell (g := gd) mem1)
 |fail)
    refine ⟨⟨i + 1, o ++ [(x, k)], Ao2, co2, by simp, by congr 1, by omega, ⟨?_⟩, ⟨?_⟩⟩, by simp [intOf]; omega⟩
    ·
     rw [EZ HX.out, HNO.out, HO.out]
     rfl
    ·
     exact (Sep.eG H.out)
  ·
   go_wp2_with fail
   go_ret
   have e1 : aN l = o := by rw [HO.out, List.take_of_length_le (by omega)]
   rw [e1]
   exact ⟨_, rfl, qb6 H.out mem1 JK, H.out.below⟩
end Go.Proofs.U
namespace Go.Proofs.Sp
open Go.RowKit Go.Proofs.aA.aK Go.Proofs.aA.aW Go.Proofs.aA.aX
section
variable {F : Fence} {n : Nat} {P : Program} {ops : Array Oper} {rest : List Oper} {o : Oper} {a : Act} {Q : Exit → Act → World → Prop} {b W : World} {rs : List Res}
theorem E8 {W W1 : World} {v : Value} (hgd : o.guard = none) (hab : o.about P W a.eval = none) (hdf : ∀ c, o.op ≠ .defer c) (hrun : (execOp a.eval o).run P W = .ok (.value v) W1)
  (h : wpListIn F n P ops Q rest (a.put o.dst v) W1) : wpListIn F n P ops Q (o :: rest) a W := by
 refine wpListIn_plain hgd fun K hK => ?_
 refine ⟨fun f hf => (by rw [hab] at hf; cases hf), ?_⟩
 rw [Oper.semAt_eq _ _ _ hdf, hrun]
 exact hK _ _ h
theorem QS {W W1 : World} (hgd : o.guard = none) (hab : o.about P W a.eval = none) (hdf : ∀ c, o.op ≠ .defer c) (hN : o.dst = none) (hrun : (execOp a.eval o).run P W = .ok .skip W1)
  (h : wpListIn F n P ops Q rest a W1) : wpListIn F n P ops Q (o :: rest) a W := by
 refine wpListIn_plain hgd fun K hK => ?_
 refine ⟨fun f hf => (by rw [hab] at hf; cases hf), ?_⟩
 rw [Oper.semAt_eq _ _ _ hdf, hrun]
 show K (a.put o.dst undef) W1
 rw [hN]
 exact hK _ _ h
theorem TK {N : Tmp} (_hd : o.dst = some N) (h : wpListIn F n P ops Q (o :: rest) a W) : wpListIn F n P ops Q (o :: rest) a W := h
theorem rF {t : TypeId} {q : Tmp} {v : Operand} (_ho : o.op = .store t (.tmp q) v) (h : wpListIn F n P ops Q (o :: rest) a W) : wpListIn F n P ops Q (o :: rest) a W := h
theorem JL {bf : Builtin} {xs : Array Operand} {ts : Array TypeId} (_ho : o.op = .call { callee := .builtin bf, args := xs, argTypes := ts }) (h : wpListIn F n P ops Q (o :: rest) a W) : wpListIn F n P ops Q (o :: rest) a W := h
theorem ZH (hgd : o.guard = none) (hab : o.about P W a.eval = none) (hdf : ∀ c, o.op ≠ .defer c) (H : aC (Sep b W rs)) {cs : List Value} {t : TypeId}
  (hrun : (execOp a.eval o).run P W = .ok (.value (.pointer (some ⟨W.heap.size, 0, none⟩))) (W.alloc (.cells cs.toArray t (0, 0))))
  (h : ∀ g W', aC (Sep b W' (box g cs t :: rs)) → wpListIn F n P ops Q rest (a.put o.dst (.pointer (some ⟨g, 0, none⟩))) W') : wpListIn F n P ops Q (o :: rest) a W :=
 E8 hgd hab hdf hrun (h _ _ ⟨H.out.alloc cs t⟩)
theorem xX {W1 : World} {rs1 : List Res} (hgd : o.guard = none) {t : TypeId} {q : Tmp} {v : Operand} (ho : o.op = .store t (.tmp q) v) (hab : o.about P W a.eval = none) (hN : o.dst = none) (hrun : (execOp a.eval o).run P W = .ok .skip W1) (H1 : Sep b W1 rs1)
  (h : ∀ W', aC (Sep b W' rs1) → wpListIn F n P ops Q rest a W') : wpListIn F n P ops Q (o :: rest) a W :=
 QS hgd hab (fun c e => by rw [ho] at e; cases e) hN hrun (h _ ⟨H1⟩)
theorem QT {s x : Operand} {t : TypeId} (ho : o.op = .call { callee := .builtin .append, args := #[s, x], argTypes := #[t, t] }) :
  ∃ S : Sem Value, (execOp a.eval o).run P W = (S.run P W).andThen fun v w => .ok (.value v) w := by
 refine ⟨?S, ?_⟩
 rotate_left
 ·simp [execOp, ho, resolve, invoke, builtin]
  rfl
theorem ZI {α : Type} (d : Kd α) (hd : Flat d) (pre post : List Res) (hgd : o.guard = none) (s x : Operand) (t e : TypeId) (z : Value) (bytes : Nat)
  (ho : o.op = .call { callee := .builtin .append, args := #[s, x], argTypes := #[t, t] })
  (ht : P.underlying t = some (.slice e)) (hinfo : (P.info? e).map (fun i => (i.zero, i.size, i.bytes)) = some (some z, d.sz, bytes)) (hz : z.cells.size = d.sz) (hs0 : 0 < d.sz) (hb0 : 0 < bytes)
  (v : Value) (xs : List α) (p : α) (cs : List Value) (hs : a.eval s = v) (hx : a.eval x = .slice (some ⟨W.heap.size, 0, none⟩) 1 1) (hp : d.M W 0 (fun _ => False) p cs)
  (hab : o.about P (W.alloc (.cells cs.toArray e)) a.eval = none)
  (H : aC (Sep b W (pre ++ row d e v xs :: post))) (hl : (xs.length + 1) * bytes ≤ 140737488355328)
  (h : ∀ A1 c1 W', aC (Sep b W' (pre ++ row d e (.slice A1 (xs ++ [p]).length c1) (xs ++ [p]) :: post)) → wpListIn F n P ops Q rest (a.put o.dst (.slice A1 (xs ++ [p]).length c1)) W') :
  wpListIn F n P ops Q (o :: rest) a (W.alloc (.cells cs.toArray e)) := by
 have hpl := MS (P := P) (ops := ops) (rest := []) (o := o) (a := a) (Q := fun ex a' w' => ex = Exit.normal ∧ ∃ A1 c1, a' = a.put o.dst (.slice A1 (xs ++ [p]).length c1) ∧ aC (Sep b w' (pre ++ row d e (.slice A1 (xs ++ [p]).length c1) (xs ++ [p]) :: post)))
  d hd pre post hgd s x t e z bytes ho ht hinfo hz hs0 hb0 v xs p cs hs hx hp H hl (fun A1 c1 W' HS => ⟨rfl, A1, c1, rfl, HS⟩)
 obtain ⟨S, hS⟩ := QT (P := P) (a := a) (W := W.alloc (.cells cs.toArray e)) ho
 simp only [wpList, Region.wanted, hgd, if_true] at hpl
 rcases hpl with hpl | ⟨_, a1, w1, h1, _⟩
 ·unfold Oper.wp at hpl
  rw [hS] at hpl
  cases hr : S.run P (W.alloc (.cells cs.toArray e)) with
  | ok u w1 =>
   rw [hr] at hpl hS
   obtain ⟨_, A1, c1, he, HS⟩ := (show (True ∧ ∃ A1 c1, a.put o.dst u = a.put o.dst (.slice A1 (xs ++ [p]).length c1) ∧ aC (Sep b w1 (pre ++ row d e (.slice A1 (xs ++ [p]).length c1) (xs ++ [p]) :: post))) from hpl)
   refine E8 hgd hab (fun c e => by rw [ho] at e; cases e) hS ?_
   rw [he]
   exact h A1 c1 w1 HS
  | halt x w1 =>
   rw [hr] at hpl
   exfalso
   cases x <;> first | exact hpl.elim | exact absurd hpl.1 (by simp) | simp [Result.andThen, Oper.upon] at hpl
 ·cases h1
end
theorem TL {F : Fence} {n : Nat} {P : Program} {ops : Array Oper} {rest : List Oper} {o : Oper} {a : Act} {Q : Exit → Act → World → Prop} {b W : World} {α : Type} {r0 r1 r2 r3 : Res} {post : List Res} (d : Kd α) (hd : Flat d) (hgd : o.guard = none) (s x : Operand) (t e : TypeId) (z : Value) (bytes : Nat)
 (ho : o.op = .call { callee := .builtin .append, args := #[s, x], argTypes := #[t, t] })
 (ht : P.underlying t = some (.slice e)) (hinfo : (P.info? e).map (fun i => (i.zero, i.size, i.bytes)) = some (some z, d.sz, bytes)) (hz : z.cells.size = d.sz) (hs0 : 0 < d.sz) (hb0 : 0 < bytes)
 (v : Value) (xs : List α) (p : α) (cs : List Value) (hs : a.eval s = v) (hx : a.eval x = .slice (some ⟨W.heap.size, 0, none⟩) 1 1) (hp : d.M W 0 (fun _ => False) p cs)
 (hab : o.about P (W.alloc (.cells cs.toArray e)) a.eval = none)
 (H : aC (Sep b W (r0 :: r1 :: r2 :: r3 :: row d e v xs :: post))) (hl : (xs.length + 1) * bytes ≤ 140737488355328)
 (h : ∀ A1 c1 W', aC (Sep b W' (r0 :: r1 :: r2 :: r3 :: row d e (.slice A1 (xs ++ [p]).length c1) (xs ++ [p]) :: post)) → wpListIn F n P ops Q rest (a.put o.dst (.slice A1 (xs ++ [p]).length c1)) W') :
 wpListIn F n P ops Q (o :: rest) a (W.alloc (.cells cs.toArray e)) := ZI d hd [r0, r1, r2, r3] post hgd s x t e z bytes ho ht hinfo hz hs0 hb0 v xs p cs hs hx hp hab H hl h
end Go.Proofs.Sp
namespace Go.Proofs.U
open Go.RowKit Go.Proofs.aA.aK Go.Proofs.aA.aW Go.Proofs.aA.aX Go.Proofs.Sp Go.Proofs.gB
theorem fM {b w w' : World} {rs rs' : List Res} (H : Sep b w rs) (K : Sep w w' rs') : Sep b w' (rs' ++ rs) :=
 H.news K.below (fun r hr => ⟨K.all r hr, K.base r hr⟩) K.apart
structure Lg where
 l : List S67
 dn : Bool
 fu : Int
 fa : Int
 size : Int
 fr : Int
 nx : Int
 br : Bool
def lgc (A : Option Addr) (c : Nat) (L : Lg) : List Value := [.slice A L.l.length c, .bool L.dn, .int .i64 L.fu, .int .i64 L.fa, .int .i64 L.size, .int .u64 L.fr, .int .u64 L.nx, .bool L.br]
abbrev lV (A : Option Addr) (c : Nat) (l : List S67) : Res := row k67 67 (.slice A l.length c) l
abbrev JM := List S67 × Bool × Int × Int × Int
def chg (L : Lg) (R : JM) : Lg := ⟨R.1, R.2.1, R.2.2.1, R.2.2.2.1, L.size, L.fr, L.nx, if R.2.2.2.2 = 0 then L.br else true⟩
def Ends (n : Int) (e : Ending) : Prop := (n = 0 ∧ e = .returned (.tuple #[])) ∨ (n ≠ 0 ∧ e = .panicked [{ v := .iface 34 (.int .i64 n), recovered := false }])
set_option maxHeartbeats 4000000 in
theorem ZJ {b w : World} {rs : List Res} (gl : Nat) (A : Option Addr) (c : Nat) (L : Lg) (A1 : Option Addr) (c1 : Nat) (l1 : List S67) (d1 : Bool) (u1 a1 : Int) (H0 : aC (Sep b w (box gl (lgc A c L) 134 :: rs))) :
  Calls Tryz.prog 72 #[.pointer (some ⟨gl, 0, none⟩), .agg #[.slice A1 l1.length c1, .bool d1, .int .i64 u1, .int .i64 a1], .int .i64 0] w fun e w' => e = .returned (.tuple #[]) ∧ aC (Sep b w' (box gl (lgc A1 c1 (chg L (l1, d1, u1, a1, 0))) 134 :: rs)) := by
 have H : aC (Sep b w (box gl [.slice A L.l.length c, .bool L.dn, .int .i64 L.fu, .int .i64 L.fa, .int .i64 L.size, .int .u64 L.fr, .int .u64 L.nx, .bool L.br] 134 :: rs)) := H0
 clear H0
 have c_l := H.out.cell (g := gl) aP
 have z_l := H.out.frozen (g := gl) aP
 go_enter Tryz.func72, Tryz.ntmps72
 go_wp2_with (first
 |((with_reducible refine aU (N := 4) rfl ?_);
   refine bK rfl H (cs := [.slice A1 l1.length c1, .bool d1, .int .i64 u1, .int .i64 a1]) (t := 27) ?hr ?_;
   (case hr => first | (go_simp; done) | (go_simp; rfl));
   intro gd wd1 n_;
   simp only [Act.put, zA, zZ, zS];
   clear H c_l z_l;
   have H := n_;
   clear n_;
   have c_d := H.out.cell (g := gd) aP;
   have z_d := H.out.frozen (g := gd) aP;
   have c_l := H.out.cell (g := gl) mem1;
   have z_l := H.out.frozen (g := gl) mem1)
 |((with_reducible refine aV (t := 27) (p := 10) rfl ?_);
   refine bH (rs1 := (box gd [.slice A1 l1.length c1, .bool d1, .int .i64 u1, .int .i64 a1] 27 :: box gl [.slice A1 l1.length c1, .bool d1, .int .i64 u1, .int .i64 a1, .int .i64 L.size, .int .u64 L.fr, .int .u64 L.nx, .bool L.br] 134 :: rs)) rfl (t := 27) (p := 10) rfl rfl ?hr (H1 := (Sep.set1 (Sep.set1 (Sep.set1 (Sep.set1 H.out 0 (.slice A1 l1.length c1) rfl) 1 (.bool d1) rfl) 2 (.int .i64 u1) rfl) 3 (.int .i64 a1) rfl)) ?_;
   (case hr => first | (go_simp; done) | (go_simp; rfl));
   intro wd2 n_;
   clear H c_d z_d c_l z_l;
   have H := n_;
   clear n_;
   have c_d := H.out.cell (g := gd) aP;
   have z_d := H.out.frozen (g := gd) aP;
   have c_l := H.out.cell (g := gl) mem1;
   have z_l := H.out.frozen (g := gl) mem1)
 |fail)
 go_end0
 exact ⟨rfl, ⟨(Sep.eG H.out)⟩⟩
set_option maxHeartbeats 4000000 in
theorem ZK {b w : World} {rs : List Res} (gl : Nat) (A : Option Addr) (c : Nat) (L : Lg) (A1 : Option Addr) (c1 : Nat) (l1 : List S67) (d1 : Bool) (u1 a1 : Int) (n : Int) (hn : n ≠ 0) (H0 : aC (Sep b w (box gl (lgc A c L) 134 :: rs))) :
  Calls Tryz.prog 72 #[.pointer (some ⟨gl, 0, none⟩), .agg #[.slice A1 l1.length c1, .bool d1, .int .i64 u1, .int .i64 a1], .int .i64 n] w fun e w' => e = .panicked [{ v := .iface 34 (.int .i64 n), recovered := false }] ∧ aC (Sep b w' (box gl (lgc A1 c1 (chg L (l1, d1, u1, a1, n))) 134 :: rs)) := by
 have H : aC (Sep b w (box gl [.slice A L.l.length c, .bool L.dn, .int .i64 L.fu, .int .i64 L.fa, .int .i64 L.size, .int .u64 L.fr, .int .u64 L.nx, .bool L.br] 134 :: rs)) := H0
 clear H0
 have c_l := H.out.cell (g := gl) aP
 have z_l := H.out.frozen (g := gl) aP
 go_enter Tryz.func72, Tryz.ntmps72
 go_wp2_with (first
 |((with_reducible refine aU (N := 4) rfl ?_);
   refine bK rfl H (cs := [.slice A1 l1.length c1, .bool d1, .int .i64 u1, .int .i64 a1]) (t := 27) ?hr ?_;
   (case hr => first | (go_simp; done) | (go_simp; rfl));
   intro gd wd3 n_;
   simp only [Act.put, zA, zZ, zS];
   clear H c_l z_l;
   have H := n_;
   clear n_;
   have c_d := H.out.cell (g := gd) aP;
   have z_d := H.out.frozen (g := gd) aP;
   have c_l := H.out.cell (g := gl) mem1;
   have z_l := H.out.frozen (g := gl) mem1)
 |((with_reducible refine aV (t := 27) (p := 10) rfl ?_);
   refine bH (rs1 := (box gd [.slice A1 l1.length c1, .bool d1, .int .i64 u1, .int .i64 a1] 27 :: box gl [.slice A1 l1.length c1, .bool d1, .int .i64 u1, .int .i64 a1, .int .i64 L.size, .int .u64 L.fr, .int .u64 L.nx, .bool L.br] 134 :: rs)) rfl (t := 27) (p := 10) rfl rfl ?hr (H1 := (Sep.set1 (Sep.set1 (Sep.set1 (Sep.set1 H.out 0 (.slice A1 l1.length c1) rfl) 1 (.bool d1) rfl) 2 (.int .i64 u1) rfl) 3 (.int .i64 a1) rfl)) ?_;
   (case hr => first | (go_simp; done) | (go_simp; rfl));
   intro wd4 n_;
   clear H c_d z_d c_l z_l;
   have H := n_;
   clear n_;
   have c_d := H.out.cell (g := gd) aP;
   have z_d := H.out.frozen (g := gd) aP;
   have c_l := H.out.cell (g := gl) mem1;
   have z_l := H.out.frozen (g := gl) mem1)
 |((with_reducible refine aV (t := 4) (p := 16) rfl ?_);
   refine bH (rs1 := (box gd [.slice A1 l1.length c1, .bool d1, .int .i64 u1, .int .i64 a1] 27 :: box gl [.slice A1 l1.length c1, .bool d1, .int .i64 u1, .int .i64 a1, .int .i64 L.size, .int .u64 L.fr, .int .u64 L.nx, .bool true] 134 :: rs)) rfl (t := 4) (p := 16) rfl rfl ?hr (H1 := (Sep.set1 H.out 7 (.bool true) rfl)) ?_;
   (case hr => first | (go_simp; done) | (go_simp; rfl));
   intro wd5 n_;
   clear H c_d z_d c_l z_l;
   have H := n_;
   clear n_;
   have c_d := H.out.cell (g := gd) aP;
   have z_d := H.out.frozen (g := gd) aP;
   have c_l := H.out.cell (g := gl) mem1;
   have z_l := H.out.frozen (g := gl) mem1)
 |fail)
 refine ⟨rfl, rfl, ⟨?_⟩⟩
 have h := (Sep.eG H.out)
 have e : chg L (l1, d1, u1, a1, n) = ⟨l1, d1, u1, a1, L.size, L.fr, L.nx, true⟩ := by simp [chg, hn]
 rw [e]
 exact h
theorem pV {b w : World} {rs : List Res} (gl : Nat) (A : Option Addr) (c : Nat) (L : Lg) (A1 : Option Addr) (c1 : Nat) (R : JM) (H0 : aC (Sep b w (box gl (lgc A c L) 134 :: rs))) :
  Calls Tryz.prog 72 #[.pointer (some ⟨gl, 0, none⟩), .agg #[.slice A1 R.1.length c1, .bool R.2.1, .int .i64 R.2.2.1, .int .i64 R.2.2.2.1], .int .i64 R.2.2.2.2] w fun e w' => Ends R.2.2.2.2 e ∧ aC (Sep b w' (box gl (lgc A1 c1 (chg L R)) 134 :: rs)) := by
 obtain ⟨l1, d1, u1, a1, n⟩ := R
 by_cases hn : n = 0
 ·subst hn
  exact (ZJ gl A c L A1 c1 l1 d1 u1 a1 H0).mono fun e w' h => ⟨.inl ⟨rfl, h.1⟩, h.2⟩
 ·exact (ZK gl A c L A1 c1 l1 d1 u1 a1 n hn H0).mono fun e w' h => ⟨.inr ⟨hn, h.1⟩, h.2⟩
theorem pW {P : Program} {fn : Func} {p q : Tmp} {ty u : TypeId} (h : fn.results = #[.cell p ty, .cell q u]) (tmps : Array Value) (w : World) (g : Nat) (t : TypeId) (cs : Array Value) (fr : Nat × Nat) (d : TypeDesc) (g2 : Nat) (v : Value)
  (hp : tmps.getD p undef = .pointer (some ⟨g, 0, none⟩)) (hg : w.heap[g]? = some (.cells cs t fr))
  (hu : P.underlying ty = some d) (hd : (match d with | .struct _ | .array _ _ => true | _ => false) = true) (hi : (P.info? ty).map (·.size) = some cs.size)
  (hq : tmps.getD q undef = .pointer (some ⟨g2, 0, none⟩)) (hl : (loadVar u ⟨g2, 0, none⟩).run P w = .ok v w) :
  (results fn tmps).run P w = .ok (.tuple #[.agg cs, v]) w := by
 have hp' : tmps[p]?.getD undef = .pointer (some ⟨g, 0, none⟩) := by simpa using hp
 have hq' : tmps[q]?.getD undef = .pointer (some ⟨g2, 0, none⟩) := by simpa using hq
 simp [results, h, hp', hq', asAddr, run_loadVar_row w g t ty cs fr d hg hu hd hi, hl]
theorem EC {w : World} {g : Nat} {v : Value} (h : ∀ j, w.cell? ⟨g, j, none⟩ = [v][j]?) : (loadVar 34 ⟨g, 0, none⟩).run Tryz.prog w = .ok v w := by
 have h0 : w.cell? ⟨g, 0, none⟩ = some v := h 0
 simp [loadVar, go_sem, Tryz.underlying34, h0]
theorem info30 : (Tryz.prog.info? 30).map (fun i => i.size) = some 8 := by kernel_rfl
def LK (b : World) (gl fdo : Nat) (lb : Array Value) (L : Lg) (rs : List Res) (R : Lg) (n : Int) : Prop :=
 ∀ (A : Option Addr) (c : Nat) (w : World) (ts : List Res), aC (Sep b w (box gl (lgc A c L) 134 :: lV A c L.l :: (rs ++ ts))) →
  Calls Tryz.prog fdo lb w fun e w' => Ends n e ∧ ∃ A' c', aC (Sep b w' (box gl (lgc A' c' R) 134 :: lV A' c' R.l :: (rs ++ ts)))
set_option maxHeartbeats 4000000 in
theorem catch_idle (g2 g4 g5 : Nat) (w : World) :
  CallsD Tryz.prog 116 #[.pointer (some ⟨g2, 0, none⟩), .pointer (some ⟨g4, 0, none⟩), .pointer (some ⟨g5, 0, none⟩)] .returning w fun e u' w' => e = .returned (.tuple #[]) ∧ u' = .returning ∧ w' = w := by
 refine callsD_of_wpS Tryz.func116 rfl fun c₀ cs hu => ?_
 apply wpS_seq
 apply wpS_region
 simp [wpOpsS, go_sem, recoverD, hu, Tryz.ntmps116, Exit.thenS]
 apply wpS_seq
 apply wpS_region
 simp [wpOpsS, go_sem, recoverD, hu, Tryz.ntmps116, Exit.thenS]
 refine wpS_cond (t := false) (by simp [Act.eval, Array.replicate]) ?_
 simp only [Bool.false_eq_true, if_false]
 refine wpS_of_wp (wp_skip ?_)
 cases c₀
 simp_all [bodyPostS, results, Tryz.results116]
set_option maxHeartbeats 4000000 in
theorem catch_panicking {b w : World} {rs : List Res} (g2 g4 g5 gl : Nat) (x5 : Value) (A : Option Addr) (c : Nat) (L : Lg) (n : Int) (older : List PanicEntry) (H0 : aC (Sep b w (box g5 [x5] 34 :: box g4 [.slice none 0 0, .bool false, .int .i64 0, .int .i64 0, .int .i64 0, .int .u64 0, .int .u64 0, .bool false] 30 :: box g2 [.pointer (some ⟨gl, 0, none⟩)] 131 :: box gl (lgc A c L) 134 :: rs))) :
  CallsD Tryz.prog 116 #[.pointer (some ⟨g2, 0, none⟩), .pointer (some ⟨g4, 0, none⟩), .pointer (some ⟨g5, 0, none⟩)] (.panicking ({ v := .iface 34 (.int .i64 n), recovered := false } :: older)) w fun e u' w' => e = .returned (.tuple #[]) ∧ u' = .panicking ({ v := .iface 34 (.int .i64 n), recovered := true } :: older) ∧ aC (Sep b w' (box g5 [.int .i64 n] 34 :: box g4 (lgc A c L) 30 :: box g2 [.pointer (some ⟨gl, 0, none⟩)] 131 :: box gl (lgc A c L) 134 :: rs)) := by
 have H : aC (Sep b w (box g5 [x5] 34 :: box g4 [.slice none 0 0, .bool false, .int .i64 0, .int .i64 0, .int .i64 0, .int .u64 0, .int .u64 0, .bool false] 30 :: box g2 [.pointer (some ⟨gl, 0, none⟩)] 131 :: box gl [.slice A L.l.length c, .bool L.dn, .int .i64 L.fu, .int .i64 L.fa, .int .i64 L.size, .int .u64 L.fr, .int .u64 L.nx, .bool L.br] 134 :: rs)) := H0
 clear H0
 have c_5 := H.out.cell (g := g5) aP
 have z_5 := H.out.frozen (g := g5) aP
 have c_4 := H.out.cell (g := g4) mem1
 have z_4 := H.out.frozen (g := g4) mem1
 have c_2 := H.out.cell (g := g2) mem2
 have z_2 := H.out.frozen (g := g2) mem2
 have c_l := H.out.cell (g := gl) mem3
 have z_l := H.out.frozen (g := gl) mem3
 have hta : ∀ w, (Instr.typeAssert (.iface 34 (.int .i64 n)) 20 34 false).run Tryz.prog w = .ok (.int .i64 n) w := fun w => by simp [Instr.typeAssert, go_sem, Tryz.underlying34]
 have hne : ¬ g5 = g4 := (List.pairwise_cons.1 H.out.apart).1 _ (List.mem_cons_self ..) g5 rfl
 have hne2 : ¬ g4 = g5 := fun e => hne e.symm
 refine callsD_of_wpS Tryz.func116 rfl fun c₀ cs hu => ?_
 simp only [List.size_toArray, List.length_cons, List.length_nil, Tryz.ntmps116, Nat.reduceAdd, Nat.reduceSub, Array.replicate_succ, Array.replicate_zero, List.push_toArray, List.append_toArray, List.nil_append, List.cons_append]
 apply wpS_seq
 apply wpS_region
 simp [wpOpsS, go_sem, recoverD, hu, Tryz.ntmps116, Exit.thenS]
 apply wpS_seq
 apply wpS_region
 simp [wpOpsS, go_sem, recoverD, hu, Tryz.ntmps116, Exit.thenS]
 refine wpS_cond (t := true) (by simp [Act.eval, Array.replicate]) ?_
 simp only [if_true]
 refine wpS_of_wp ?_
 go_region
 have h9 : Sep b _ (box g5 [.int .i64 n] 34 :: box g4 [.slice A L.l.length c, .bool L.dn, .int .i64 L.fu, .int .i64 L.fa, .int .i64 L.size, .int .u64 L.fr, .int .u64 L.nx, .bool L.br] 30 :: box g2 [.pointer (some ⟨gl, 0, none⟩)] 131 :: box gl [.slice A L.l.length c, .bool L.dn, .int .i64 L.fu, .int .i64 L.fa, .int .i64 L.size, .int .u64 L.fr, .int .u64 L.nx, .bool L.br] 134 :: rs) := (Sep.drew (Sep.set0 (Sep.set1 (Sep.set1 (Sep.set1 (Sep.set1 (Sep.set1 (Sep.set1 (Sep.set1 (Sep.set1 H.out 0 (.slice A L.l.length c) rfl) 1 (.bool L.dn) rfl) 2 (.int .i64 L.fu) rfl) 3 (.int .i64 L.fa) rfl) 4 (.int .i64 L.size) rfl) 5 (.int .u64 L.fr) rfl) 6 (.int .u64 L.nx) rfl) 7 (.bool L.br) rfl) 0 (.int .i64 n) rfl))
 cases c₀
 exact ⟨rfl, _, rfl, _, results_none rfl _ _ _, rfl, rfl, ⟨h9⟩⟩
set_option maxHeartbeats 4000000 in
theorem AX {b : World} {gl fdo : Nat} {lb : Array Value} {L : Lg} {rs : List Res} {R : Lg} {n : Int} (hdo : LK b gl fdo lb L rs R n) (he : ∀ args w, (callFunc fdo args).run Tryz.prog w = .ok (.enter fdo args) w) (A : Option Addr) (c : Nat) (w : World) (H0 : aC (Sep b w (box gl (lgc A c L) 134 :: lV A c L.l :: rs))) :
  Calls Tryz.prog 70 #[.pointer (some ⟨gl, 0, none⟩), .func (.func fdo) #[] lb] w fun e w' => ∃ A' c', e = .returned (.tuple #[.agg (lgc A' c' R).toArray, .int .i64 n]) ∧ aC (Sep b w' (box gl (lgc A' c' R) 134 :: lV A' c' R.l :: rs)) := by
 have hmf : ∀ (fn : Fn) (first cap : Array Value) (w : World), (Instr.makeFunc fn first cap).run Tryz.prog w = .ok (.func fn first cap) w := fun _ _ _ _ => rfl
 have HDO := aC.mk hdo
 clear hdo
 have H : aC (Sep b w (box gl [.slice A L.l.length c, .bool L.dn, .int .i64 L.fu, .int .i64 L.fa, .int .i64 L.size, .int .u64 L.fr, .int .u64 L.nx, .bool L.br] 134 :: row k67 67 (.slice A (L.l).length c) L.l :: rs)) := H0
 clear H0
 have c_l := H.out.cell (g := gl) aP
 have z_l := H.out.frozen (g := gl) aP
 go_enter_defers Tryz.func70, Tryz.ntmps70
 go_wp2_with (first
 |((with_reducible refine aU (N := 2) rfl ?_);
   refine bK rfl H (cs := [.pointer (some ⟨gl, 0, none⟩)]) (t := 131) ?hr ?_;
   (case hr => first | (go_simp; done) | (go_simp; rfl));
   intro g2 wd6 n_;
   simp only [Act.put, zA, zZ, zS];
   clear H c_l z_l;
   have H := n_;
   clear n_;
   have c_2 := H.out.cell (g := g2) aP;
   have z_2 := H.out.frozen (g := g2) aP;
   have c_l := H.out.cell (g := gl) mem1;
   have z_l := H.out.frozen (g := gl) mem1)
 |((with_reducible refine aU (N := 4) rfl ?_);
   refine bK rfl H (cs := [.slice none 0 0, .bool false, .int .i64 0, .int .i64 0, .int .i64 0, .int .u64 0, .int .u64 0, .bool false]) (t := 30) ?hr ?_;
   (case hr => first | (go_simp; done) | (go_simp; rfl));
   intro g4 wd7 n_;
   simp only [Act.put, zA, zZ, zS];
   clear H c_2 z_2 c_l z_l;
   have H := n_;
   clear n_;
   have c_4 := H.out.cell (g := g4) aP;
   have z_4 := H.out.frozen (g := g4) aP;
   have c_2 := H.out.cell (g := g2) mem1;
   have z_2 := H.out.frozen (g := g2) mem1;
   have c_l := H.out.cell (g := gl) mem2;
   have z_l := H.out.frozen (g := gl) mem2)
 |((with_reducible refine aU (N := 5) rfl ?_);
   refine bK rfl H (cs := [.int .i64 0]) (t := 34) ?hr ?_;
   (case hr => first | (go_simp; done) | (go_simp; rfl));
   intro g5 wd8 n_;
   simp only [Act.put, zA, zZ, zS];
   clear H c_4 z_4 c_2 z_2 c_l z_l;
   have H := n_;
   clear n_;
   have c_5 := H.out.cell (g := g5) aP;
   have z_5 := H.out.frozen (g := g5) aP;
   have c_4 := H.out.cell (g := g4) mem1;
   have z_4 := H.out.frozen (g := g4) mem1;
   have c_2 := H.out.cell (g := g2) mem2;
   have z_2 := H.out.frozen (g := g2) mem2;
   have c_l := H.out.cell (g := gl) mem3;
   have z_l := H.out.frozen (g := gl) mem3)
 |fail)
 refine (HDO.out A c _ [box g5 [.int .i64 0] 34, box g4 [.slice none 0 0, .bool false, .int .i64 0, .int .i64 0, .int .i64 0, .int .u64 0, .int .u64 0, .bool false] 30, box g2 [.pointer (some ⟨gl, 0, none⟩)] 131] ⟨H.out.perm (List.perm_append_comm (l₁ := [box g5 [.int .i64 0] 34, box g4 [.slice none 0 0, .bool false, .int .i64 0, .int .i64 0, .int .i64 0, .int .u64 0, .int .u64 0, .bool false] 30, box g2 [.pointer (some ⟨gl, 0, none⟩)] 131]))⟩).mono ?_
 rintro e w2 ⟨hE, A', c', H2⟩
 clear c_5 z_5 c_4 z_4 c_2 z_2 c_l z_l H
 have H : aC (Sep b w2 (box g5 [.int .i64 0] 34 :: box g4 [.slice none 0 0, .bool false, .int .i64 0, .int .i64 0, .int .i64 0, .int .u64 0, .int .u64 0, .bool false] 30 :: box g2 [.pointer (some ⟨gl, 0, none⟩)] 131 :: box gl [.slice A' R.l.length c', .bool R.dn, .int .i64 R.fu, .int .i64 R.fa, .int .i64 R.size, .int .u64 R.fr, .int .u64 R.nx, .bool R.br] 134 :: row k67 67 (.slice A' (R.l).length c') R.l :: rs)) := ⟨H2.out.perm (List.perm_append_comm (l₁ := box gl (lgc A' c' R) 134 :: lV A' c' R.l :: rs))⟩
 clear H2
 have c_5 := H.out.cell (g := g5) aP
 have z_5 := H.out.frozen (g := g5) aP
 have c_4 := H.out.cell (g := g4) mem1
 have z_4 := H.out.frozen (g := g4) mem1
 have c_2 := H.out.cell (g := g2) mem2
 have z_2 := H.out.frozen (g := g2) mem2
 have c_l := H.out.cell (g := gl) mem3
 have z_l := H.out.frozen (g := gl) mem3
 rcases hE with ⟨rfl, rfl⟩ | ⟨hn, rfl⟩
 ·
  go_wp2_with (first
 |((with_reducible refine aV (t := 30) (p := 4) rfl ?_);
   refine bH (rs1 := (box g5 [.int .i64 0] 34 :: box g4 [.slice A' R.l.length c', .bool R.dn, .int .i64 R.fu, .int .i64 R.fa, .int .i64 R.size, .int .u64 R.fr, .int .u64 R.nx, .bool R.br] 30 :: box g2 [.pointer (some ⟨gl, 0, none⟩)] 131 :: box gl [.slice A' R.l.length c', .bool R.dn, .int .i64 R.fu, .int .i64 R.fa, .int .i64 R.size, .int .u64 R.fr, .int .u64 R.nx, .bool R.br] 134 :: row k67 67 (.slice A' (R.l).length c') R.l :: rs)) rfl (t := 30) (p := 4) rfl rfl ?hr (H1 := (Sep.set1 (Sep.set1 (Sep.set1 (Sep.set1 (Sep.set1 (Sep.set1 (Sep.set1 (Sep.set1 H.out 0 (.slice A' R.l.length c') rfl) 1 (.bool R.dn) rfl) 2 (.int .i64 R.fu) rfl) 3 (.int .i64 R.fa) rfl) 4 (.int .i64 R.size) rfl) 5 (.int .u64 R.fr) rfl) 6 (.int .u64 R.nx) rfl) 7 (.bool R.br) rfl)) ?_;
   (case hr => first | (go_simp; done) | (go_simp; rfl));
   intro wd9 n_;
   clear H c_5 z_5 c_4 z_4 c_2 z_2 c_l z_l;
   have H := n_;
   clear n_;
   have c_5 := H.out.cell (g := g5) aP;
   have z_5 := H.out.frozen (g := g5) aP;
   have c_4 := H.out.cell (g := g4) mem1;
   have z_4 := H.out.frozen (g := g4) mem1;
   have c_2 := H.out.cell (g := g2) mem2;
   have z_2 := H.out.frozen (g := g2) mem2;
   have c_l := H.out.cell (g := gl) mem3;
   have z_l := H.out.frozen (g := gl) mem3)
 |((with_reducible refine aV (t := 34) (p := 5) rfl ?_);
   refine bH (rs1 := (box g5 [.int .i64 0] 34 :: box g4 [.slice A' R.l.length c', .bool R.dn, .int .i64 R.fu, .int .i64 R.fa, .int .i64 R.size, .int .u64 R.fr, .int .u64 R.nx, .bool R.br] 30 :: box g2 [.pointer (some ⟨gl, 0, none⟩)] 131 :: box gl [.slice A' R.l.length c', .bool R.dn, .int .i64 R.fu, .int .i64 R.fa, .int .i64 R.size, .int .u64 R.fr, .int .u64 R.nx, .bool R.br] 134 :: row k67 67 (.slice A' (R.l).length c') R.l :: rs)) rfl (t := 34) (p := 5) rfl rfl ?hr (H1 := (Sep.set0 H.out 0 (.int .i64 0) rfl)) ?_;
   (case hr => first | (go_simp; done) | (go_simp; rfl));
   intro ED n_;
   clear H c_5 z_5 c_4 z_4 c_2 z_2 c_l z_l;
   have H := n_;
   clear n_;
   have c_5 := H.out.cell (g := g5) aP;
   have z_5 := H.out.frozen (g := g5) aP;
   have c_4 := H.out.cell (g := g4) mem1;
   have z_4 := H.out.frozen (g := g4) mem1;
   have c_2 := H.out.cell (g := g2) mem2;
   have z_2 := H.out.frozen (g := g2) mem2;
   have c_l := H.out.cell (g := gl) mem3;
   have z_l := H.out.frozen (g := gl) mem3)
 |fail)
  refine leaves_cons (f := 116) (args := #[.pointer (some ⟨g2, 0, none⟩), .pointer (some ⟨g4, 0, none⟩), .pointer (some ⟨g5, 0, none⟩)]) (by simp) (by simp [go_sem]) ?_
  refine (catch_idle g2 g4 g5 _).mono ?_
  rintro e u' w'' ⟨rfl, rfl, rfl⟩
  clear c_5
  have c_5 := H.out.cell (g := g5) aP
  simp only [Leaves, settle]
  exact ⟨_, pW (fn := Tryz.f70) rfl _ _ g4 30 _ _ _ g5 _ rfl (H.out.jF (g := g4) mem1) Tryz.underlying30 rfl info30 rfl (EC c_5), A', c', rfl, ⟨(Sep.eG (Sep.drop1 (Sep.drop2 H.out)))⟩⟩
 ·
  go_wp2_with fail
  refine leaves_cons (f := 116) (args := #[.pointer (some ⟨g2, 0, none⟩), .pointer (some ⟨g4, 0, none⟩), .pointer (some ⟨g5, 0, none⟩)]) (by simp) (by simp [go_sem]) ?_
  refine (catch_panicking g2 g4 g5 gl _ A' c' R n _ H).mono ?_
  rintro e u' w'' ⟨rfl, rfl, H9⟩
  clear c_5 z_5 c_4 z_4 c_2 z_2 c_l z_l H
  have H := H9
  have c_5 := H.out.cell (g := g5) aP
  simp only [Leaves, settle]
  exact ⟨_, pW (fn := Tryz.f70) rfl _ _ g4 30 _ _ _ g5 _ rfl (H.out.jF (g := g4) mem1) Tryz.underlying30 rfl info30 rfl (EC c_5), A', c', rfl, ⟨(Sep.eG (Sep.drop1 (Sep.drop2 H.out)))⟩⟩
end Go.Proofs.U
