import Derived.Test.YtanonhipicoigaaTx0
import Derived.WalkLawsBesides
import Derived.Outline
import Derived.WalkSpells
import Derived.Laws.EntriesVeiled
namespace Go.Proofs.Ytanonhipicoigaa.T
open Go.RowKit Go.Proofs.YtanonhipicoigaaW.PrintWords Go.Proofs.YtanonhipicoigaaW.PrintLast Go.Proofs.YtanonhipicoigaaW.PrintMore
set_option linter.unusedVariables false
set_option linter.unusedSimpArgs false

theorem bl_irrefl : ∀ a : List UInt8, Op.bytesLess a a = false
  | [] => rfl
  | x :: r => by
    simp only [Op.bytesLess, Bool.or_eq_false_iff, Bool.and_eq_false_iff]
    exact ⟨by simp, .inr (bl_irrefl r)⟩

theorem bl_asymm : ∀ a b : List UInt8, Op.bytesLess a b = true → Op.bytesLess b a = false
  | a, [], h => by cases a <;> simp [Op.bytesLess] at h
  | [], y :: s, h => rfl
  | x :: r, y :: s, h => by
    simp only [Op.bytesLess, Bool.or_eq_true, Bool.and_eq_true, decide_eq_true_eq, beq_iff_eq] at h
    simp only [Op.bytesLess, Bool.or_eq_false_iff, Bool.and_eq_false_iff, decide_eq_false_iff_not]
    rcases h with h | ⟨rfl, h⟩
    · have hn : x.toNat < y.toNat := h
      refine ⟨fun hh => ?_, .inl ?_⟩
      · have : y.toNat < x.toNat := hh
        omega
      · simp only [beq_eq_false_iff_ne, ne_eq]
        rintro rfl
        omega
    · exact ⟨fun hh => by have : x.toNat < x.toNat := hh; omega, .inr (bl_asymm r s h)⟩

theorem bl_total : ∀ a b : List UInt8, Op.bytesLess a b = true ∨ a = b ∨ Op.bytesLess b a = true
  | [], [] => .inr (.inl rfl)
  | [], y :: s => .inl rfl
  | x :: r, [] => .inr (.inr rfl)
  | x :: r, y :: s => by
    simp only [Op.bytesLess, Bool.or_eq_true, Bool.and_eq_true, decide_eq_true_eq, beq_iff_eq, List.cons.injEq]
    rcases Nat.lt_trichotomy x.toNat y.toNat with h | h | h
    · exact .inl (.inl h)
    · have e : x = y := UInt8.toNat_inj.mp h
      subst e
      rcases bl_total r s with g | g | g
      · exact .inl (.inr ⟨rfl, g⟩)
      · exact .inr (.inl ⟨rfl, g⟩)
      · exact .inr (.inr (.inr ⟨rfl, g⟩))
    · exact .inr (.inr (.inl h))

theorem bl_trans : ∀ a b c : List UInt8, Op.bytesLess a b = true → Op.bytesLess b c = true → Op.bytesLess a c = true
  | a, b, [], h, k => by cases b <;> simp [Op.bytesLess] at k
  | [], b, z :: t, h, k => rfl
  | x :: r, [], z :: t, h, k => by simp [Op.bytesLess] at h
  | x :: r, y :: s, z :: t, h, k => by
    simp only [Op.bytesLess, Bool.or_eq_true, Bool.and_eq_true, decide_eq_true_eq, beq_iff_eq] at h k ⊢
    rcases h with h | ⟨rfl, h⟩
    · rcases k with k | ⟨rfl, k⟩
      · left
        have h' : x.toNat < y.toNat := h
        have k' : y.toNat < z.toNat := k
        show x.toNat < z.toNat
        omega
      · exact .inl h
    · rcases k with k | ⟨rfl, k⟩
      · exact .inl k
      · exact .inr ⟨rfl, bl_trans r s t h k⟩

theorem empty_list : (⟨#[]⟩ : ByteArray).toList = [] := by
  unfold ByteArray.toList
  rw [ByteArray.toList.loop]
  rfl

/-- A file that may stand behind a name. -/
def okFile (last : List UInt8) (f : S43) : Bool := Op.bytesLess last f.f0.toList && decide (f.f0.size ≤ 4096) && decide (f.f1.size ≤ 262144) && decide (0 ≤ f.f2) && decide (f.f2 ≤ (f.f1.size : Int))
def okFiles : List UInt8 → List S43 → Bool
  | _, [] => true
  | last, f :: r => okFile last f && okFiles f.f0.toList r
/-- The files of a disk that is right. -/
def rightF (l : List S43) : Bool := okFiles [] l && decide (l.length ≤ 64)

theorem drop_rd (l : List S43) (i : Nat) (h : i < l.length) : l.drop i = rd_T43 l (i : Int) :: l.drop (i + 1) := by
  rw [List.drop_eq_getElem_cons h]
  congr 1
  simp [rd_T43, List.getD, h]

def disk_Check.f (l0_0 : List (S43)) (a0_1 : Bool) (a0_2 : Int) (a0_3 : Int) : Option (Int) := some (if rightF l0_0 = true then 0 else 6)
set_option maxHeartbeats 1600000 in
set_option maxRecDepth 100000 in
theorem disk_Check.calls (A0_0 : Option Addr) (c0_0 : Nat) (l0_0 : List (S43)) (a0_1 : Bool) (a0_2 : Int) (a0_3 : Int) (r : Int) (w : World) (hr0_0 : Kd.C k43 w A0_0 l0_0.length l0_0) (hc0_0 : l0_0.length ≤ c0_0) (h : disk_Check.f l0_0 a0_1 a0_2 a0_3 = some r) :
    Calls Try.prog 15 #[.agg #[.slice A0_0 l0_0.length c0_0, .bool a0_1, .int .i64 a0_2, .int .i64 a0_3]] w fun e w' => e = .returned (.int .i64 r) ∧ Below w.heap.size w w' := by
  unfold disk_Check.f at h
  have HRR := Aside0.mk (Option.some.inj h).symm
  clear h
  have hlen : l0_0.length ≤ 9223372036854775807 := hr0_0.2.1
  have HR := Aside0.mk hr0_0
  clear hr0_0
  go_enter Try.func15, Try.ntmps15
  go_wp2
  go_loopw [3, 9] (fun vl vi wr => ∃ (i : Nat) (last : ByteArray), vl = .string last ∧ vi = .int .i64 i ∧ i ≤ l0_0.length ∧ Aside0 (okFiles last.toList (l0_0.drop i) = okFiles [] l0_0) ∧ Aside0 (wr.heap[w.heap.size]? = some (.cells #[.slice A0_0 l0_0.length c0_0, .bool a0_1, .int .i64 a0_2, .int .i64 a0_3] 24 (0, 0))) ∧ Aside0 (Below w.heap.size w wr))
    (fun vl vi _ => l0_0.length - (intOf vi).toNat)
  case atStart => exact ⟨0, _, rfl, rfl, Nat.zero_le _, ⟨by rw [List.drop_zero, empty_list]⟩, ⟨blk_new _ _⟩, ⟨(Below.refl _ _).alloc (Nat.le_refl _) _⟩⟩
  case round =>
    obtain ⟨i, last, rfl, rfl, hin, HG, HK, HB⟩ := hrel
    by_cases hlt : i < l0_0.length
    · have hr1 := Kd.C_below HR.out HB.out
      obtain ⟨ad, rfl, hc0, hc1, hc2⟩ := at_T43 hr1 (i : Int) (by omega) (by omega)
      clear hr1
      have HD := Aside0.mk (drop_rd l0_0 i hlt)
      simp only [Int.toNat_natCast] at hc0 hc1 hc2
      obtain ⟨x, hx⟩ : ∃ x, x = rd_T43 l0_0 (i : Int) := ⟨_, rfl⟩
      rw [← hx] at hc0 hc1 hc2 HD
      clear hx
      by_cases hok : okFile last.toList x = true
      · have hok2 := hok
        simp only [okFile, Bool.and_eq_true, decide_eq_true_eq] at hok2
        obtain ⟨⟨⟨⟨c1, c2⟩, c3⟩, c4⟩, c5⟩ := hok2
        have g1 : Op.bytesLess x.f0.toList last.toList = false := bl_asymm _ _ c1
        have g2 : (x.f0.toList == last.toList) = false := by
          simp only [beq_eq_false_iff_ne, ne_eq]
          intro e
          rw [e, bl_irrefl] at c1
          cases c1
        have c2' : (x.f0.size : Int) ≤ 4096 := by omega
        have c3' : (x.f1.size : Int) ≤ 262144 := by omega
        have HOK := Aside0.mk hok
        clear c1 hok c2 c3
        go_wp2
        refine ⟨⟨i + 1, x.f0, by simp, by congr 1, by omega, ⟨?_⟩, ⟨blk_alloc HK.out _⟩, ⟨below_alloc HB.out _⟩⟩, by simp [intOf]; omega⟩
        have h := HG.out
        rw [HD.out] at h
        simp only [okFiles, HOK.out, Bool.true_and] at h
        exact h
      · have HR6 : Aside0 (r = 6) := by
          refine ⟨?_⟩
          have h := HG.out
          rw [HD.out] at h
          have e : okFile last.toList x = false := by simpa using hok
          simp only [okFiles, e, Bool.false_and] at h
          rw [HRR.out, rightF, ← h]
          rfl
        by_cases c1 : Op.bytesLess last.toList x.f0.toList = true
        · have g1 : Op.bytesLess x.f0.toList last.toList = false := bl_asymm _ _ c1
          have g2 : (x.f0.toList == last.toList) = false := by
            simp only [beq_eq_false_iff_ne, ne_eq]
            intro e
            rw [e, bl_irrefl] at c1
            cases c1
          have hbad : Aside0 (¬ ((x.f0.size : Int) ≤ 4096 ∧ (x.f1.size : Int) ≤ 262144 ∧ 0 ≤ x.f2 ∧ x.f2 ≤ (x.f1.size : Int))) := by
            refine ⟨fun hh => hok ?_⟩
            simp only [okFile, Bool.and_eq_true, decide_eq_true_eq]
            exact ⟨⟨⟨⟨c1, by omega⟩, by omega⟩, hh.2.2.1⟩, hh.2.2.2⟩
          clear c1 hok
          go_wp2
          all_goals first
            | (go_ret; exact ⟨by rw [HR6.out]; rfl, below_alloc HB.out _⟩)
            | (have := hbad.out; exfalso; omega)
        · have g0 : (Op.bytesLess x.f0.toList last.toList || x.f0.toList == last.toList) = true := by
            rcases bl_total last.toList x.f0.toList with g | g | g
            · exact absurd g c1
            · simp [g]
            · simp [g]
          clear c1 hok
          go_wp2
          all_goals first
            | (go_ret; exact ⟨by rw [HR6.out]; rfl, below_alloc HB.out _⟩)
    · have hcz0 : wr.cell? ⟨w.heap.size, 0, none⟩ = some (.slice A0_0 l0_0.length c0_0) := (blk_cell HK.out 0).trans rfl
      have hi : i = l0_0.length := by omega
      subst hi
      have HOK : Aside0 (okFiles [] l0_0 = true) := ⟨by have h := HG.out; rw [List.drop_length] at h; exact h.symm⟩
      by_cases hn : l0_0.length ≤ 64
      · have HR0 : Aside0 (r = 0) := ⟨by rw [HRR.out, rightF, HOK.out]; simp [hn]⟩
        go_wp2
        go_ret
        exact ⟨by rw [HR0.out]; rfl, HB.out⟩
      · have HR0 : Aside0 (r = 6) := ⟨by rw [HRR.out, rightF, HOK.out]; simp [hn]⟩
        go_wp2
        go_ret
        exact ⟨by rw [HR0.out]; rfl, HB.out⟩
end Go.Proofs.Ytanonhipicoigaa.T

namespace Go.Proofs.Ytanonhipicoigaa.T
open Go.RowKit Go.Proofs.YtanonhipicoigaaW.PrintWords Go.Proofs.YtanonhipicoigaaW.PrintLast Go.Proofs.YtanonhipicoigaaW.PrintMore
set_option linter.unusedVariables false
set_option linter.unusedSimpArgs false

/-- How two texts stand to each other, by bytes. -/
def cmpS (x y : ByteArray) : Int := if Op.bytesLess x.toList y.toList = true then -1 else if x.toList = y.toList then 0 else 1

theorem compare_any (x y : ByteArray) (w : World) :
    Calls Try.prog 47 #[.string x, .string y] w fun e w' => e = .returned (.int .i64 (cmpS x y)) ∧ w = w' := by
  by_cases h1 : Op.bytesLess x.toList y.toList = true
  · go_enter Try.func47, Try.ntmps47
    go_wp2
    go_ret
    exact ⟨by simp [cmpS, h1], rfl⟩
  · have h1' : Op.bytesLess x.toList y.toList = false := by simpa using h1
    by_cases h2 : x.toList = y.toList
    · have h3 : (!x.toList == y.toList) = false := by simp [h2]
      have e : cmpS x y = 0 := by unfold cmpS; rw [if_neg h1, if_pos h2]
      rw [e]
      clear h1 h2 e
      go_enter Try.func47, Try.ntmps47
      go_wp2
      go_ret
      exact ⟨rfl, rfl⟩
    · have h3 : (!x.toList == y.toList) = true := by simp [h2]
      have e : cmpS x y = 1 := by simp [cmpS, h1', h2]
      rw [e]
      clear h1 h2 e
      go_enter Try.func47, Try.ntmps47
      go_wp2
      go_ret
      exact ⟨rfl, rfl⟩

/-- What disk.place hands to the search. -/
theorem place1_any (x : S43) (y : ByteArray) (w : World) :
    Calls Try.prog 46 #[.agg #[.string x.f0, .string x.f1, .int .i64 x.f2], .string y] w fun e w' => e = .returned (.int .i64 (cmpS x.f0 y)) ∧ Below w.heap.size w w' := by
  go_enter Try.func46, Try.ntmps46
  go_wp2_with (go_at_call 47; refine (compare_any _ _ _).mono ?_; rintro e w' ⟨rfl, rfl⟩)
  go_ret
  exact ⟨rfl, (Below.refl _ _).alloc (Nat.le_refl _) _⟩

/-- Where a text stands, or would stand, among rising ones: as Go's search goes. -/
def bsGo (l : List S43) (s : ByteArray) : Nat → Nat → Nat → Nat
  | 0, i, _ => i
  | f + 1, i, j => if i < j then (if cmpS (rd_T43 l (((i + j) / 2 : Nat) : Int)).f0 s < 0 then bsGo l s f ((i + j) / 2 + 1) j else bsGo l s f i ((i + j) / 2)) else i

theorem bsGo_le (l : List S43) (s : ByteArray) : ∀ (f i j : Nat), i ≤ j → i ≤ bsGo l s f i j ∧ bsGo l s f i j ≤ j
  | 0, i, j, h => ⟨Nat.le_refl _, h⟩
  | f + 1, i, j, h => by
    unfold bsGo
    split
    · split
      · have := bsGo_le l s f ((i + j) / 2 + 1) j (by omega); omega
      · have := bsGo_le l s f i ((i + j) / 2) (by omega); omega
    · omega

def bsOf (l : List S43) (s : ByteArray) : Nat := bsGo l s l.length 0 l.length
def isAt (l : List S43) (s : ByteArray) (i : Nat) : Bool := decide (i < l.length) && (cmpS (rd_T43 l (i : Int)).f0 s == 0)

theorem cmpS_range (x y : ByteArray) : -1 ≤ cmpS x y ∧ cmpS x y ≤ 1 := by
  unfold cmpS
  split
  · omega
  · split <;> omega

set_option maxHeartbeats 1600000 in
set_option maxRecDepth 100000 in
theorem search_any (A : Option Addr) (c : Nat) (l : List S43) (s : ByteArray) (w : World) (hr : Kd.C k43 w A l.length l) (hn : l.length ≤ 64) :
    Calls Try.prog 45 #[.slice A l.length c, .string s, .func (.func 46) #[] #[]] w fun e w' => e = .returned (.tuple #[.int .i64 (bsOf l s), .bool (isAt l s (bsOf l s))]) ∧ Below w.heap.size w w' := by
  have HR := Aside0.mk hr
  clear hr
  go_enter Try.func45, Try.ntmps45
  go_wp2
  go_loopw [9, 10] (fun vi vj wr => ∃ i j f : Nat, vi = .int .i64 i ∧ vj = .int .i64 j ∧ i ≤ j ∧ j ≤ l.length ∧ j ≤ i + f ∧ Aside0 (bsGo l s f i j = bsOf l s) ∧ Aside0 (Below w.heap.size w wr))
    (fun vi vj _ => (intOf vj).toNat - (intOf vi).toNat)
  case atStart => exact ⟨0, l.length, l.length, rfl, rfl, by omega, by omega, by omega, ⟨rfl⟩, ⟨Below.refl _ _⟩⟩
  case round =>
    obtain ⟨i, j, f, rfl, rfl, hij, hjn, hjf, HG, HB⟩ := hrel
    by_cases hlt : i < j
    · have hr1 := Kd.C_below HR.out HB.out
      obtain ⟨ad, rfl, hc0, hc1, hc2⟩ := at_T43 hr1 (((i + j) / 2 : Nat) : Int) (by omega) (by omega)
      clear hr1
      simp only [Int.toNat_natCast] at hc0 hc1 hc2
      have hrg := cmpS_range (rd_T43 l (((i + j) / 2 : Nat) : Int)).f0 s
      obtain ⟨x, hx⟩ : ∃ x, x = rd_T43 l (((i + j) / 2 : Nat) : Int) := ⟨_, rfl⟩
      rw [← hx] at hc0 hc1 hc2 hrg
      have HX := Aside0.mk hx
      clear hx
      by_cases hcm : cmpS x.f0 s < 0
      · go_wp2_with (go_at_call 46; refine (place1_any x s _).mono ?_; rintro e w' ⟨rfl, hb⟩)
        refine ⟨⟨(i + j) / 2 + 1, j, f - 1, by congr 1, rfl, by omega, hjn, by omega, ⟨?_⟩, ⟨below_step HB.out hb⟩⟩, by simp [intOf]; omega⟩
        have h := HG.out
        obtain ⟨f, rfl⟩ : ∃ f', f = f' + 1 := ⟨f - 1, by omega⟩
        rw [← h, bsGo, if_pos hlt, if_pos (by rw [← HX.out]; exact hcm)]
        rfl
      · have hcm2 : decide (cmpS x.f0 s < 0) = false := by simpa using hcm
        go_wp2_with (go_at_call 46; refine (place1_any x s _).mono ?_; rintro e w' ⟨rfl, hb⟩)
        refine ⟨⟨i, (i + j) / 2, f - 1, rfl, by congr 1, by omega, by omega, by omega, ⟨?_⟩, ⟨below_step HB.out hb⟩⟩, by simp [intOf]; omega⟩
        have h := HG.out
        obtain ⟨f, rfl⟩ : ∃ f', f = f' + 1 := ⟨f - 1, by omega⟩
        rw [← h, bsGo, if_pos hlt, if_neg (by rw [← HX.out]; omega)]
        rfl
    · have hij2 : i = j := by omega
      subst hij2
      have HI : Aside0 (i = bsOf l s) := by
        have h := HG.out
        refine ⟨?_⟩
        rw [← h]
        cases f <;> simp [bsGo]
      by_cases hin : i < l.length
      · have hr1 := Kd.C_below HR.out HB.out
        obtain ⟨ad, rfl, hc0, hc1, hc2⟩ := at_T43 hr1 (i : Int) (by omega) (by omega)
        clear hr1
        simp only [Int.toNat_natCast] at hc0 hc1 hc2
        obtain ⟨x, hx⟩ : ∃ x, x = rd_T43 l (i : Int) := ⟨_, rfl⟩
        rw [← hx] at hc0 hc1 hc2
        have HX := Aside0.mk hx
        clear hx
        go_wp2_with (go_at_call 46; refine (place1_any x s _).mono ?_; rintro e w' ⟨rfl, hb⟩)
        go_ret2
        refine ⟨?_, below_step HB.out hb⟩
        rw [← HI.out]
        have e1 : isAt l s i = (cmpS x.f0 s == 0) := by unfold isAt; rw [← HX.out]; simp [hin]
        rw [e1]
        rfl
      · have e1 : isAt l s i = false := by unfold isAt; simp [hin]
        go_wp2
        go_ret2
        refine ⟨?_, HB.out⟩
        rw [← HI.out, e1]
        rfl

/-- The place of a name among files. -/
def disk_place.f (l0_0 : List (S43)) (a0_1 : Bool) (a0_2 : Int) (a0_3 : Int) (a1 : ByteArray) : Option (Int × Bool) := if l0_0.length ≤ 64 then some ((bsOf l0_0 a1 : Int), isAt l0_0 a1 (bsOf l0_0 a1)) else none
theorem disk_place.calls (A0_0 : Option Addr) (c0_0 : Nat) (l0_0 : List (S43)) (a0_1 : Bool) (a0_2 : Int) (a0_3 : Int) (a1 : ByteArray) (r1 : Int) (r2 : Bool) (w : World) (hr0_0 : Kd.C k43 w A0_0 l0_0.length l0_0) (hc0_0 : l0_0.length ≤ c0_0) (h : disk_place.f l0_0 a0_1 a0_2 a0_3 a1 = some (r1, r2)) :
    Calls Try.prog 31 #[.agg #[.slice A0_0 l0_0.length c0_0, .bool a0_1, .int .i64 a0_2, .int .i64 a0_3], .string a1] w fun e w' => e = .returned (.tuple #[.int .i64 r1, .bool r2]) ∧ Below w.heap.size w w' := by
  unfold disk_place.f at h
  split at h
  case isFalse => cases h
  rename_i hn
  simp only [Option.some.injEq, Prod.mk.injEq] at h
  obtain ⟨rfl, rfl⟩ := h
  have HR := Aside0.mk hr0_0
  clear hr0_0
  go_enter Try.func31, Try.ntmps31
  go_wp2_with (go_at_call 45; (with_reducible refine (search_any A0_0 c0_0 l0_0 a1 _ (Kd.C_below HR.out ((Below.refl _ _).alloc (Nat.le_refl _) _)) hn).mono ?_); rintro e w' ⟨rfl, hb⟩)
  go_ret2
  exact ⟨rfl, below_step ((Below.refl _ _).alloc (Nat.le_refl _) _) hb⟩
end Go.Proofs.Ytanonhipicoigaa.T

namespace Go.Proofs.Ytanonhipicoigaa.T
open Go.RowKit Go.Proofs.YtanonhipicoigaaW.PrintWords Go.Proofs.YtanonhipicoigaaW.PrintLast Go.Proofs.YtanonhipicoigaaW.PrintMore
set_option linter.unusedVariables false
set_option linter.unusedSimpArgs false

/-- A list of files in new memory. -/
def api_File.f (l0 : List (S43)) : Option (List (S43)) := if l0.length < 3518437208883 then some l0 else none
set_option maxHeartbeats 1600000 in
set_option maxRecDepth 100000 in
theorem api_File.calls (A0 : Option Addr) (c0 : Nat) (l0 : List (S43)) (r : List (S43)) (w : World) (hr0 : Kd.C k43 w A0 l0.length l0) (hc0 : l0.length ≤ c0) (h : api_File.f l0 = some r) :
    Calls Try.prog 38 #[.slice A0 l0.length c0] w fun e w' => ∃ v0_ : Value, e = .returned v0_ ∧ Kd.R k43 43 w' w.heap.size (fun _ => True) v0_ r ∧ Below w.heap.size w w' := by
  unfold api_File.f at h
  split at h
  case isFalse => cases h
  rename_i hn
  have HE := Aside0.mk (Option.some.inj h)
  clear h
  have HR := Aside0.mk hr0
  clear hr0
  have hnil : ∀ (a : Option Addr) (n c : Nat) (w : World), (binOp .eql 22 (.slice a n c) (.slice none 0 0)).run Try.prog w = .ok (.bool a.isNone) w := fun a n c w => by
    simp only [binOp]
    simp [Op.equal, Op.maxDepth, Lib.run_equalIn_slice_nil w 9999 22 43 a n c 0 0 Try.underlying22]
  cases A0 with
  | none =>
    have hl : l0 = [] := by
      cases l0 with
      | nil => rfl
      | cons x s => obtain ⟨ad, h, _⟩ := HR.out.2.2 (by simp); cases h
    go_enter Try.func38, Try.ntmps38
    go_wp2
    go_ret
    exact ⟨_, rfl, by rw [← HE.out, hl]; exact Kd.R_nil _ _ _ _ _, Below.refl _ _⟩
  | some ad =>
    go_enter Try.func38, Try.ntmps38
    go_wp2_with (first
      | ((with_reducible refine gate_dst (N := 5) rfl ?_);
          refine Kd.R_lit k43 _ 43 ?hg (N := 5) ?hd (xs := ([] : List (S43))) (inner := []) (ok := fun _ => True) (okp := fun _ => True) ?hr ?hp (fun _ hk => hk) trivial (Below.refl _ _) (Nat.le_refl _) (by simp) ?_;
          (case hd => rfl); (case hg => rfl); (case hr => first | (go_simp; done) | (go_simp; rfl)); (case hp => exact (Reps.none _ _));
          intro v5 w5 ho hb hg_ hnew_; clear hg_ hnew_; have HO := Aside0.mk ho; have HB := Aside0.mk hb; clear ho hb)
      | ((with_reducible refine gate_builtin (b := .append) (xs := #[.tmp 5, .tmp 6]) rfl ?_); at_builtin;
          refine Kd.R_append_rows k43 (w0 := w) w.heap.size rfl (.tmp 5) (.tmp 6) 22 43 (.agg #[(.string ⟨#[]⟩), (.string ⟨#[]⟩), (.int .i64 0)]) 40 rfl Try.underlying22 info43 rfl (by decide) (by omega) v5 [] l0 _ _ _ (fun _ => True) (fun _ => False) rfl rfl ?aO ?aR (fun _ _ h => h) (fun _ h => h.elim) ?aF ?aB ?aS ?aL ?_;
          (case aR => exact Kd.C_below HR.out HB.out); (case aB => exact HB.out); (case aF => exact fun _ _ => trivial); (case aO => exact HO.out); (case aS => exact HB.out.size); (case aL => simp only [List.length_nil]; omega);
          intro v7 w9 ho hb hg hat; clear hg hat; have HO2 := Aside0.mk ho; have HB2 := Aside0.mk hb; clear ho hb))
    go_ret
    exact ⟨_, rfl, by rw [← HE.out]; exact HO2.out, HB2.out⟩
end Go.Proofs.Ytanonhipicoigaa.T

namespace Go.Proofs.Ytanonhipicoigaa.T
open Go.RowKit Go.Proofs.YtanonhipicoigaaW.PrintWords Go.Proofs.YtanonhipicoigaaW.PrintLast Go.Proofs.YtanonhipicoigaaW.PrintMore
set_option linter.unusedVariables false
set_option linter.unusedSimpArgs false

/-- A function's number that may be called. -/
def Enters (K : Nat) : Prop := ∀ (args : Array Value) (w : World), (callFunc K args).run Try.prog w = .ok (.enter K args) w

/-- What closures lead to stays: all blocks but those of changes (63), of disks (24), and p. -/
def KeepT (w2 w3 : World) (p : Option Nat) : Prop := ∀ (k : Nat) (cs : Array Value) (t : Nat), t ≠ 63 → t ≠ 24 → some k ≠ p → w2.heap[k]? = some (.cells cs t (0, 0)) → w3.heap[k]? = some (.cells cs t (0, 0))
theorem KeepT.of_below {w2 w3 : World} (h : Below w2.heap.size w2 w3) : KeepT w2 w3 none := fun _ _ _ _ _ _ hk => blk_below hk h
theorem KeepT.of_keep {w2 w3 : World} {g : Nat} (h : KeepBut w2 w3 g none) : KeepT w2 w3 (some g) := fun k _ _ _ _ hg hk => h.blk hk (fun e => hg (by rw [e])) (by simp)

/-- What a change refuses, as a function value. -/
def RefV (w2 : World) (rv : Value) (n : Nat) (rf : Int → Bool → Int) : Prop :=
  ∃ (K : Nat) (caps : Array Value), rv = .func (.func K) #[] caps ∧ Enters K ∧
    ∀ (w3 : World) (i : Nat) (b : Bool), KeepT w2 w3 none → i ≤ n → (b = true → i < n) →
      Calls Try.prog K (#[.int .i64 (i : Int), .bool b] ++ caps) w3 fun e w4 => e = .returned (.int .i64 (rf i b)) ∧ Below w3.heap.size w3 w4

/-- What a change does, as a function value. -/
def DoV (base gp : Nat) (w2 : World) (dv v : Value) (l : List S43) (rf : Int → Bool → Int) (df : Int → List S43) : Prop :=
  ∃ (K : Nat) (caps : Array Value), dv = .func (.func K) #[] caps ∧ Enters K ∧
    ∀ (w3 : World) (i : Nat) (b : Bool) (dn : Bool) (fu fa : Int), KeepT w2 w3 (some gp) → i ≤ l.length → (b = true → i < l.length) → rf i b = 0 →
      w3.heap[gp]? = some (.cells #[v, .bool dn, .int .i64 fu, .int .i64 fa] 77 (0, 0)) → Kd.R k43 43 w3 base (fun _ => True) v l →
      Calls Try.prog K (#[.int .i64 (i : Int)] ++ caps) w3 fun e w4 => e = .returned (.tuple #[]) ∧ ∃ v' : Value,
        w4.heap[gp]? = some (.cells #[v', .bool dn, .int .i64 fu, .int .i64 fa] 77 (0, 0)) ∧ Kd.R k43 43 w4 base (fun _ => True) v' (df i) ∧ Below base w3 w4 ∧
        ∀ (k : Nat) (cs : Array Value), w3.heap[k]? = some (.cells cs 24 (0, 0)) → w4.heap[k]? = some (.cells cs 24 (0, 0))

/-- What a change comes to. -/
def changedF (l : List S43) (dn : Bool) (fu fa : Int) (name : ByteArray) (wr : Bool) (rf : Int → Bool → Int) (df : Int → List S43) : List S43 × Bool × Int × Int × Int :=
  if rightF l = true then
    if dn = true then (l, dn, fu, fa, 17)
    else if rf (bsOf l name : Int) (isAt l name (bsOf l name)) = 0 then
      if fa = 0 then (l, dn, fu, -1, 18)
      else if fu = 0 then (if wr = true then df (bsOf l name : Int) else l, true, fu, (if 0 < fa then wrap64 (fa - 1) else fa), 17)
      else (df (bsOf l name : Int), dn, (if 0 < fu then wrap64 (fu - 1) else fu), (if 0 < fa then wrap64 (fa - 1) else fa), 0)
    else (l, dn, fu, fa, rf (bsOf l name : Int) (isAt l name (bsOf l name)))
  else ([], false, 0, 0, 6)

def OfV (W : World) (K : Nat) (caps : Array Value) (l : List S43) (dn : Bool) (fu fa : Int) (wr : Bool) (rf : Int → Bool → Int) (df : Int → List S43) : Prop :=
  ∀ (w1 : World) (gp : Nat) (v : Value), Below W.heap.size W w1 → W.heap.size ≤ gp → w1.heap[gp]? = some (.cells #[v, .bool dn, .int .i64 fu, .int .i64 fa] 77 (0, 0)) → Kd.R k43 43 w1 W.heap.size (fun _ => True) v l → rightF l = true →
    Calls Try.prog K (#[.pointer (some ⟨gp, 0, none⟩)] ++ caps) w1 fun e w2 => ∃ rv dv : Value, e = .returned (.agg #[rv, dv, .bool wr]) ∧ Below w1.heap.size w1 w2 ∧ RefV w2 rv l.length rf ∧ DoV W.heap.size gp w2 dv v l rf df

theorem put4 {W : World} {g t : Nat} {a0 a1 a2 a3 : Value} (h : W.heap[g]? = some (.cells #[a0, a1, a2, a3] t (0, 0))) (x0 x1 x2 x3 : Value) :
    ((((W.setCell ⟨g, 0, none⟩ x0).setCell ⟨g, 1, none⟩ x1).setCell ⟨g, 2, none⟩ x2).setCell ⟨g, 3, none⟩ x3).heap[g]? = some (.cells #[x0, x1, x2, x3] t (0, 0)) :=
  blk_put (cs := #[x0, x1, x2, a3]) (blk_put (cs := #[x0, x1, a2, a3]) (blk_put (cs := #[x0, a1, a2, a3]) (blk_put (cs := #[a0, a1, a2, a3]) h 0 _ rfl) 1 _ rfl) 2 _ rfl) 3 _ rfl
theorem far4 {W : World} {g g' t : Nat} {cs : Array Value} (h : W.heap[g]? = some (.cells cs t (0, 0))) (hp : g ≠ g') (x0 x1 x2 x3 : Value) :
    ((((W.setCell ⟨g', 0, none⟩ x0).setCell ⟨g', 1, none⟩ x1).setCell ⟨g', 2, none⟩ x2).setCell ⟨g', 3, none⟩ x3).heap[g]? = some (.cells cs t (0, 0)) :=
  blk_far (p := ⟨g', 3, none⟩) (blk_far (p := ⟨g', 2, none⟩) (blk_far (p := ⟨g', 1, none⟩) (blk_far (p := ⟨g', 0, none⟩) h hp _) hp _) hp _) hp _
theorem below4 {w W : World} {g : Nat} (h : Below w.heap.size w W) (hg : w.heap.size ≤ g) (x0 x1 x2 x3 : Value) :
    Below w.heap.size w ((((W.setCell ⟨g, 0, none⟩ x0).setCell ⟨g, 1, none⟩ x1).setCell ⟨g, 2, none⟩ x2).setCell ⟨g, 3, none⟩ x3) :=
  below_set (below_set (below_set (below_set h hg) hg) hg) hg
theorem R4 {W : World} {base g t : Nat} {cs : Array Value} {v : Value} {l : List S43} (h : Kd.R k43 43 W base (fun _ => True) v l) (hb : W.heap[g]? = some (.cells cs t (0, 0))) (ht : 43 ≠ t) (x0 x1 x2 x3 : Value) :
    Kd.R k43 43 ((((W.setCell ⟨g, 0, none⟩ x0).setCell ⟨g, 1, none⟩ x1).setCell ⟨g, 2, none⟩ x2).setCell ⟨g, 3, none⟩ x3) base (fun _ => True) v l :=
  Kd.R_mono (Kd.R_far (p := ⟨g, 3, none⟩) (Kd.R_far (p := ⟨g, 2, none⟩) (Kd.R_far (p := ⟨g, 1, none⟩) (Kd.R_far (p := ⟨g, 0, none⟩) (Kd.R_types h hb (fun q hq => by
    rw [show k43.E = [] from rfl] at hq
    rw [List.mem_singleton.1 hq]
    exact ht)) (fun _ hk => hk.2) _) (fun _ hk => hk.2) _) (fun _ hk => hk.2) _) (fun _ hk => hk.2) _) (fun _ _ => trivial)
theorem put3 {W : World} {g t : Nat} {a0 a1 a2 : Value} (h : W.heap[g]? = some (.cells #[a0, a1, a2] t (0, 0))) (x0 x1 x2 : Value) :
    (((W.setCell ⟨g, 0, none⟩ x0).setCell ⟨g, 1, none⟩ x1).setCell ⟨g, 2, none⟩ x2).heap[g]? = some (.cells #[x0, x1, x2] t (0, 0)) :=
  blk_put (cs := #[x0, x1, a2]) (blk_put (cs := #[x0, a1, a2]) (blk_put (cs := #[a0, a1, a2]) h 0 _ rfl) 1 _ rfl) 2 _ rfl
theorem far3 {W : World} {g g' t : Nat} {cs : Array Value} (h : W.heap[g]? = some (.cells cs t (0, 0))) (hp : g ≠ g') (x0 x1 x2 : Value) :
    (((W.setCell ⟨g', 0, none⟩ x0).setCell ⟨g', 1, none⟩ x1).setCell ⟨g', 2, none⟩ x2).heap[g]? = some (.cells cs t (0, 0)) :=
  blk_far (p := ⟨g', 2, none⟩) (blk_far (p := ⟨g', 1, none⟩) (blk_far (p := ⟨g', 0, none⟩) h hp _) hp _) hp _
theorem below3 {w W : World} {g : Nat} (h : Below w.heap.size w W) (hg : w.heap.size ≤ g) (x0 x1 x2 : Value) :
    Below w.heap.size w (((W.setCell ⟨g, 0, none⟩ x0).setCell ⟨g, 1, none⟩ x1).setCell ⟨g, 2, none⟩ x2) :=
  below_set (below_set (below_set h hg) hg) hg
theorem R3 {W : World} {base g t : Nat} {cs : Array Value} {v : Value} {l : List S43} (h : Kd.R k43 43 W base (fun _ => True) v l) (hb : W.heap[g]? = some (.cells cs t (0, 0))) (ht : 43 ≠ t) (x0 x1 x2 : Value) :
    Kd.R k43 43 (((W.setCell ⟨g, 0, none⟩ x0).setCell ⟨g, 1, none⟩ x1).setCell ⟨g, 2, none⟩ x2) base (fun _ => True) v l :=
  Kd.R_mono (Kd.R_far (p := ⟨g, 2, none⟩) (Kd.R_far (p := ⟨g, 1, none⟩) (Kd.R_far (p := ⟨g, 0, none⟩) (Kd.R_types h hb (fun q hq => by
    rw [show k43.E = [] from rfl] at hq
    rw [List.mem_singleton.1 hq]
    exact ht)) (fun _ hk => hk.2) _) (fun _ hk => hk.2) _) (fun _ hk => hk.2) _) (fun _ _ => trivial)
theorem R1 {W : World} {base g t j : Nat} {cs : Array Value} {v : Value} {l : List S43} (h : Kd.R k43 43 W base (fun _ => True) v l) (hb : W.heap[g]? = some (.cells cs t (0, 0))) (ht : 43 ≠ t) (x : Value) :
    Kd.R k43 43 (W.setCell ⟨g, j, none⟩ x) base (fun _ => True) v l :=
  Kd.R_mono (Kd.R_far (p := ⟨g, j, none⟩) (Kd.R_types h hb (fun q hq => by
    rw [show k43.E = [] from rfl] at hq
    rw [List.mem_singleton.1 hq]
    exact ht)) (fun _ hk => hk.2) _) (fun _ _ => trivial)

set_option maxHeartbeats 4000000 in
set_option maxRecDepth 100000 in
theorem changed_any (K : Nat) (caps : Array Value) (hK : Enters K) (A : Option Addr) (c : Nat) (l : List S43) (dn : Bool) (fu fa : Int) (name : ByteArray) (w : World)
    (hr : Kd.C k43 w A l.length l) (hc : l.length ≤ c) (wr : Bool) (rf : Int → Bool → Int) (df : Int → List S43) (HOF : OfV w K caps l dn fu fa wr rf df) :
    Calls Try.prog 32 #[.agg #[.slice A l.length c, .bool dn, .int .i64 fu, .int .i64 fa], .string name, .func (.func K) #[] caps] w fun e w' => ∃ v0_ : Value,
      e = .returned (.tuple #[.agg #[v0_, .bool (changedF l dn fu fa name wr rf df).2.1, .int .i64 (changedF l dn fu fa name wr rf df).2.2.1, .int .i64 (changedF l dn fu fa name wr rf df).2.2.2.1], .int .i64 (changedF l dn fu fa name wr rf df).2.2.2.2]) ∧
        Kd.R k43 43 w' w.heap.size (fun _ => True) v0_ (changedF l dn fu fa name wr rf df).1 ∧ Below w.heap.size w w' := by
  obtain ⟨R, hR⟩ : ∃ R, R = changedF l dn fu fa name wr rf df := ⟨_, rfl⟩
  rw [← hR]
  have HRR := Aside0.mk hR
  clear hR
  have HR := Aside0.mk hr
  have HOF' := Aside0.mk HOF
  have HK := Aside0.mk hK
  clear hr HOF hK
  have HB := Aside0.mk (Below.refl w.heap.size w)
  go_enter Try.func32, Try.ntmps32
  go_wp2_with (first
    | ((with_reducible refine gate_dst (N := 3) rfl ?_);
        refine box_event ?hg (N := 3) ?hd (cs := #[.slice A l.length c, .bool dn, .int .i64 fu, .int .i64 fa]) (t := 24) ?hr ?_;
        (case hd => rfl); (case hg => rfl); (case hr => first | (go_simp; done) | (go_simp; rfl));
        intro g3 hg w1 hbox hb;
        have n0_ := Aside0.mk (below_step HB.out hb); have n1_ := Aside0.mk (show w.heap.size ≤ g3 by rw [hg]; exact HB.out.size);
        clear HB; have HB := n0_; have G3 := n1_; have BK3 := Aside0.mk hbox; clear n0_ n1_ hg hbox hb)
    | ((with_reducible refine gate_dst (N := 6) rfl ?_);
        refine box_event ?hg (N := 6) ?hd (cs := #[.slice none 0 0, .bool false, .int .i64 0, .int .i64 0]) (t := 24) ?hr ?_;
        (case hd => rfl); (case hg => rfl); (case hr => first | (go_simp; done) | (go_simp; rfl));
        intro g6 hg w2 hbox hb;
        have n0_ := Aside0.mk (below_step HB.out hb); have n1_ := Aside0.mk (show w.heap.size ≤ g6 by rw [hg]; exact HB.out.size);
        have n2_ := Aside0.mk (blk_below BK3.out hb); have n3_ := Aside0.mk (show g3 ≠ g6 by rw [hg]; exact Nat.ne_of_lt (blk_lt BK3.out));
        clear HB BK3; have HB := n0_; have G6 := n1_; have BK3 := n2_; have N36 := n3_; have BK6 := Aside0.mk hbox; clear n0_ n1_ n2_ n3_ hg hbox hb;
        have hc3_0 : w2.cell? ⟨g3, 0, none⟩ = some (.slice A l.length c) := (blk_cell BK3.out 0).trans rfl;
        have hc3_1 : w2.cell? ⟨g3, 1, none⟩ = some (.bool dn) := (blk_cell BK3.out 1).trans rfl;
        have hc3_2 : w2.cell? ⟨g3, 2, none⟩ = some (.int .i64 fu) := (blk_cell BK3.out 2).trans rfl;
        have hc3_3 : w2.cell? ⟨g3, 3, none⟩ = some (.int .i64 fa) := (blk_cell BK3.out 3).trans rfl)
    | fail)
  by_cases hok : rightF l = true
  · have hle : l.length ≤ 64 := by
      simp only [rightF, Bool.and_eq_true, decide_eq_true_eq] at hok
      exact hok.2
    have HOK := Aside0.mk hok
    refine ((disk_Check.calls A c l dn fu fa 0 w2 (Kd.C_below HR.out HB.out) hc (by rw [disk_Check.f, if_pos hok])).mono ?_)
    clear hok
    rintro e w3 ⟨rfl, hb⟩
    have n0_ := Aside0.mk (below_step HB.out hb); have n1_ := Aside0.mk (blk_below BK3.out hb); have n2_ := Aside0.mk (blk_below BK6.out hb)
    clear HB BK3 BK6 hc3_0 hc3_1 hc3_2 hc3_3; have HB := n0_; have BK3 := n1_; have BK6 := n2_; clear n0_ n1_ n2_ hb
    have ca0 : w3.cell? ⟨g3, 0, none⟩ = some (Value.slice A l.length c) := (blk_cell BK3.out 0).trans rfl
    have fa0 := blk_frozen BK3.out 0
    have ca1 : w3.cell? ⟨g3, 1, none⟩ = some (Value.bool dn) := (blk_cell BK3.out 1).trans rfl
    have fa1 := blk_frozen BK3.out 1
    have ca2 : w3.cell? ⟨g3, 2, none⟩ = some (Value.int .i64 fu) := (blk_cell BK3.out 2).trans rfl
    have fa2 := blk_frozen BK3.out 2
    have ca3 : w3.cell? ⟨g3, 3, none⟩ = some (Value.int .i64 fa) := (blk_cell BK3.out 3).trans rfl
    have fa3 := blk_frozen BK3.out 3
    go_wp2_with fail
    refine ((api_File.calls A c l l w3 (Kd.C_below HR.out HB.out) hc (by rw [api_File.f, if_pos (by omega)])).mono ?_)
    rintro e w4 ⟨v, rfl, ho, hb⟩
    have n0_ := Aside0.mk (below_step HB.out hb); have n1_ := Aside0.mk (blk_below BK3.out hb); have n2_ := Aside0.mk (blk_below BK6.out hb); have HO := Aside0.mk (Kd.R_lower ho HB.out.size)
    clear HB BK3 BK6; clear ca0 fa0 ca1 fa1 ca2 fa2 ca3 fa3; have HB := n0_; have BK3 := n1_; have BK6 := n2_; clear n0_ n1_ n2_ hb ho
    obtain ⟨Ao, co, eo⟩ := Kd.R_slice HO.out
    subst eo
    have ca0 : w4.cell? ⟨g3, 0, none⟩ = some (Value.slice A l.length c) := (blk_cell BK3.out 0).trans rfl
    have fa0 := blk_frozen BK3.out 0
    have ca1 : w4.cell? ⟨g3, 1, none⟩ = some (Value.bool dn) := (blk_cell BK3.out 1).trans rfl
    have fa1 := blk_frozen BK3.out 1
    have ca2 : w4.cell? ⟨g3, 2, none⟩ = some (Value.int .i64 fu) := (blk_cell BK3.out 2).trans rfl
    have fa2 := blk_frozen BK3.out 2
    have ca3 : w4.cell? ⟨g3, 3, none⟩ = some (Value.int .i64 fa) := (blk_cell BK3.out 3).trans rfl
    have fa3 := blk_frozen BK3.out 3
    by_cases hdn : dn = true
    · subst hdn
      have HE : Aside0 (R = (l, true, fu, fa, 17)) := ⟨by rw [HRR.out, changedF, if_pos HOK.out, if_pos rfl]⟩
      go_wp2_with (first
        | ((with_reducible refine gate_dst (N := 26) rfl ?_);
            refine box_event ?hg (N := 26) ?hd (cs := #[(.slice Ao l.length co), .bool true, .int .i64 fu, .int .i64 fa]) (t := 77) ?hr ?_;
            (case hd => rfl); (case hg => rfl); (case hr => first | (go_simp; done) | (go_simp; rfl));
            intro gp hg w5 hbox hb;
            have m0_ := below_set (g := g3) (j := 0) (v := (.slice Ao l.length co)) HB.out G3.out;
            have m1_ := blk_put (cs' := #[(.slice Ao l.length co), .bool true, .int .i64 fu, .int .i64 fa]) BK3.out 0 (.slice Ao l.length co) rfl;
            have m2_ := blk_far (p := ⟨g3, 0, none⟩) BK6.out (fun e => N36.out e.symm) (.slice Ao l.length co);
            have m3_ := R1 (j := 0) HO.out BK3.out (by decide) (.slice Ao l.length co);
            have n0_ := Aside0.mk (below_step m0_ hb); have n1_ := Aside0.mk (show w.heap.size ≤ gp by rw [hg]; exact m0_.size);
            have n2_ := Aside0.mk (blk_below m1_ hb); have n3_ := Aside0.mk (blk_below m2_ hb); have n4_ := Aside0.mk (Kd.R_below m3_ hb);
            have n5_ := Aside0.mk (show g3 ≠ gp by rw [hg]; exact Nat.ne_of_lt (blk_lt m1_)); have n6_ := Aside0.mk (show g6 ≠ gp by rw [hg]; exact Nat.ne_of_lt (blk_lt m2_));
            clear ca0 fa0 ca1 fa1 ca2 fa2 ca3 fa3; clear HB BK3 BK6 HO m0_ m1_ m2_ m3_; have HB := n0_; have GP := n1_; have BK3 := n2_; have BK6 := n3_; have HO := n4_; have N3P := n5_; have N6P := n6_; have BKP := Aside0.mk hbox;
            clear n0_ n1_ n2_ n3_ n4_ n5_ n6_ hg hbox hb;
            have cp0 : w5.cell? ⟨gp, 0, none⟩ = some (Value.slice Ao l.length co) := (blk_cell BKP.out 0).trans rfl;
            have fp0 := blk_frozen BKP.out 0;
            have cp1 : w5.cell? ⟨gp, 1, none⟩ = some (Value.bool true) := (blk_cell BKP.out 1).trans rfl;
            have fp1 := blk_frozen BKP.out 1;
            have cp2 : w5.cell? ⟨gp, 2, none⟩ = some (Value.int .i64 fu) := (blk_cell BKP.out 2).trans rfl;
            have fp2 := blk_frozen BKP.out 2;
            have cp3 : w5.cell? ⟨gp, 3, none⟩ = some (Value.int .i64 fa) := (blk_cell BKP.out 3).trans rfl;
            have fp3 := blk_frozen BKP.out 3;
            have ca0 : w5.cell? ⟨g3, 0, none⟩ = some (Value.slice Ao l.length co) := (blk_cell BK3.out 0).trans rfl;
            have fa0 := blk_frozen BK3.out 0;
            have ca1 : w5.cell? ⟨g3, 1, none⟩ = some (Value.bool true) := (blk_cell BK3.out 1).trans rfl;
            have fa1 := blk_frozen BK3.out 1;
            have ca2 : w5.cell? ⟨g3, 2, none⟩ = some (Value.int .i64 fu) := (blk_cell BK3.out 2).trans rfl;
            have fa2 := blk_frozen BK3.out 2;
            have ca3 : w5.cell? ⟨g3, 3, none⟩ = some (Value.int .i64 fa) := (blk_cell BK3.out 3).trans rfl;
            have fa3 := blk_frozen BK3.out 3;
            have cb0 : w5.cell? ⟨g6, 0, none⟩ = some (Value.slice none 0 0) := (blk_cell BK6.out 0).trans rfl;
            have fb0 := blk_frozen BK6.out 0;
            have cb1 : w5.cell? ⟨g6, 1, none⟩ = some (Value.bool false) := (blk_cell BK6.out 1).trans rfl;
            have fb1 := blk_frozen BK6.out 1;
            have cb2 : w5.cell? ⟨g6, 2, none⟩ = some (Value.int .i64 0) := (blk_cell BK6.out 2).trans rfl;
            have fb2 := blk_frozen BK6.out 2;
            have cb3 : w5.cell? ⟨g6, 3, none⟩ = some (Value.int .i64 0) := (blk_cell BK6.out 3).trans rfl;
            have fb3 := blk_frozen BK6.out 3)
        | fail)
      refine bodyPost_ret (results_ct rfl _ _ g6 24 #[Value.slice Ao l.length co, Value.bool true, Value.int .i64 fu, Value.int .i64 fa] (0, 0) _ rfl (put4 BK6.out _ _ _ _) Try.underlying24 rfl (by kernel_rfl)) rfl ?_
      rw [HE.out]
      exact ⟨_, rfl, R4 HO.out BK6.out (by decide) _ _ _ _, below4 HB.out G6.out _ _ _ _⟩
    · have hdn2 : dn = false := by simpa using hdn
      subst hdn2
      clear hdn
      have hK := HK.out
      go_wp2_with (first
        | ((with_reducible refine gate_dst (N := 26) rfl ?_);
            refine box_event ?hg (N := 26) ?hd (cs := #[(.slice Ao l.length co), .bool false, .int .i64 fu, .int .i64 fa]) (t := 77) ?hr ?_;
            (case hd => rfl); (case hg => rfl); (case hr => first | (go_simp; done) | (go_simp; rfl));
            intro gp hg w5 hbox hb;
            have m0_ := below_set (g := g3) (j := 0) (v := (.slice Ao l.length co)) HB.out G3.out;
            have m1_ := blk_put (cs' := #[(.slice Ao l.length co), .bool false, .int .i64 fu, .int .i64 fa]) BK3.out 0 (.slice Ao l.length co) rfl;
            have m2_ := blk_far (p := ⟨g3, 0, none⟩) BK6.out (fun e => N36.out e.symm) (.slice Ao l.length co);
            have m3_ := R1 (j := 0) HO.out BK3.out (by decide) (.slice Ao l.length co);
            have n0_ := Aside0.mk (below_step m0_ hb); have n1_ := Aside0.mk (show w.heap.size ≤ gp by rw [hg]; exact m0_.size);
            have n2_ := Aside0.mk (blk_below m1_ hb); have n3_ := Aside0.mk (blk_below m2_ hb); have n4_ := Aside0.mk (Kd.R_below m3_ hb);
            have n5_ := Aside0.mk (show g3 ≠ gp by rw [hg]; exact Nat.ne_of_lt (blk_lt m1_)); have n6_ := Aside0.mk (show g6 ≠ gp by rw [hg]; exact Nat.ne_of_lt (blk_lt m2_));
            clear ca0 fa0 ca1 fa1 ca2 fa2 ca3 fa3; clear HB BK3 BK6 HO m0_ m1_ m2_ m3_; have HB := n0_; have GP := n1_; have BK3 := n2_; have BK6 := n3_; have HO := n4_; have N3P := n5_; have N6P := n6_; have BKP := Aside0.mk hbox;
            clear n0_ n1_ n2_ n3_ n4_ n5_ n6_ hg hbox hb;
            have cp0 : w5.cell? ⟨gp, 0, none⟩ = some (Value.slice Ao l.length co) := (blk_cell BKP.out 0).trans rfl;
            have fp0 := blk_frozen BKP.out 0;
            have cp1 : w5.cell? ⟨gp, 1, none⟩ = some (Value.bool false) := (blk_cell BKP.out 1).trans rfl;
            have fp1 := blk_frozen BKP.out 1;
            have cp2 : w5.cell? ⟨gp, 2, none⟩ = some (Value.int .i64 fu) := (blk_cell BKP.out 2).trans rfl;
            have fp2 := blk_frozen BKP.out 2;
            have cp3 : w5.cell? ⟨gp, 3, none⟩ = some (Value.int .i64 fa) := (blk_cell BKP.out 3).trans rfl;
            have fp3 := blk_frozen BKP.out 3;
            have ca0 : w5.cell? ⟨g3, 0, none⟩ = some (Value.slice Ao l.length co) := (blk_cell BK3.out 0).trans rfl;
            have fa0 := blk_frozen BK3.out 0;
            have ca1 : w5.cell? ⟨g3, 1, none⟩ = some (Value.bool false) := (blk_cell BK3.out 1).trans rfl;
            have fa1 := blk_frozen BK3.out 1;
            have ca2 : w5.cell? ⟨g3, 2, none⟩ = some (Value.int .i64 fu) := (blk_cell BK3.out 2).trans rfl;
            have fa2 := blk_frozen BK3.out 2;
            have ca3 : w5.cell? ⟨g3, 3, none⟩ = some (Value.int .i64 fa) := (blk_cell BK3.out 3).trans rfl;
            have fa3 := blk_frozen BK3.out 3)
        | fail)
      rw [hK _ _, Oper.upon_enter]
      refine ((HOF'.out w5 gp _ HB.out GP.out BKP.out HO.out HOK.out).mono ?_)
      clear hK
      rintro e w6 ⟨rv, dv, rfl, hb, ⟨Kr, cr, rfl, hKr, hrf⟩, ⟨Kd_, cd, rfl, hKd, hdo⟩⟩
      have HKr := Aside0.mk hKr
      have HKd := Aside0.mk hKd
      have Hrf := Aside0.mk hrf
      have Hdo := Aside0.mk hdo
      have n0_ := Aside0.mk (below_step HB.out hb); have n1_ := Aside0.mk (blk_below BK3.out hb); have n2_ := Aside0.mk (blk_below BK6.out hb)
      have n3_ := Aside0.mk (blk_below BKP.out hb); have n4_ := Aside0.mk (Kd.R_below HO.out hb)
      clear HB BK3 BK6 BKP HO hKr hKd hrf hdo; clear ca0 fa0 ca1 fa1 ca2 fa2 ca3 fa3; clear cp0 fp0 cp1 fp1 cp2 fp2 cp3 fp3; have HB := n0_; have BK3 := n1_; have BK6 := n2_; have BKP := n3_; have HO := n4_; clear n0_ n1_ n2_ n3_ n4_ hb
      go_wp2_with (first
        | ((with_reducible refine gate_dst (N := 10) rfl ?_);
            refine box_event ?hg (N := 10) ?hd (cs := #[.nilFunc, .nilFunc, .bool false]) (t := 63) ?hr ?_;
            (case hd => rfl); (case hg => rfl); (case hr => first | (go_simp; done) | (go_simp; rfl));
            intro gc hg w7 hbox hb;
            have n0_ := Aside0.mk (below_step HB.out hb); have n1_ := Aside0.mk (show w.heap.size ≤ gc by rw [hg]; exact HB.out.size);
            have n2_ := Aside0.mk (blk_below BK3.out hb); have n3_ := Aside0.mk (blk_below BK6.out hb); have n4_ := Aside0.mk (blk_below BKP.out hb); have n5_ := Aside0.mk (Kd.R_below HO.out hb);
            have n6_ := Aside0.mk (show g3 ≠ gc by rw [hg]; exact Nat.ne_of_lt (blk_lt BK3.out)); have n7_ := Aside0.mk (show g6 ≠ gc by rw [hg]; exact Nat.ne_of_lt (blk_lt BK6.out)); have n8_ := Aside0.mk (show gp ≠ gc by rw [hg]; exact Nat.ne_of_lt (blk_lt BKP.out));
            have n9_ := Aside0.mk (show w6.heap.size ≤ gc by rw [hg]; exact Nat.le_refl _);
            have H6 := Aside0.mk hb;
            clear HB BK3 BK6 BKP HO; have HB := n0_; have GC := n1_; have BK3 := n2_; have BK6 := n3_; have BKP := n4_; have HO := n5_; have N3C := n6_; have N6C := n7_; have NPC := n8_; have GC6 := n9_; have BKC := Aside0.mk hbox;
            clear n0_ n1_ n2_ n3_ n4_ n5_ n6_ n7_ n8_ n9_ hg hbox hb;
            have hq1 : g3 ≠ gc := N3C.out; have hq2 : gc ≠ g3 := fun e => N3C.out e.symm;
            have ca0 : w7.cell? ⟨g3, 0, none⟩ = some (Value.slice Ao l.length co) := (blk_cell BK3.out 0).trans rfl;
            have fa0 := blk_frozen BK3.out 0;
            have ca1 : w7.cell? ⟨g3, 1, none⟩ = some (Value.bool false) := (blk_cell BK3.out 1).trans rfl;
            have fa1 := blk_frozen BK3.out 1;
            have ca2 : w7.cell? ⟨g3, 2, none⟩ = some (Value.int .i64 fu) := (blk_cell BK3.out 2).trans rfl;
            have fa2 := blk_frozen BK3.out 2;
            have ca3 : w7.cell? ⟨g3, 3, none⟩ = some (Value.int .i64 fa) := (blk_cell BK3.out 3).trans rfl;
            have fa3 := blk_frozen BK3.out 3;
            have cc0 : w7.cell? ⟨gc, 0, none⟩ = some (Value.nilFunc) := (blk_cell BKC.out 0).trans rfl;
            have fc0 := blk_frozen BKC.out 0;
            have cc1 : w7.cell? ⟨gc, 1, none⟩ = some (Value.nilFunc) := (blk_cell BKC.out 1).trans rfl;
            have fc1 := blk_frozen BKC.out 1;
            have cc2 : w7.cell? ⟨gc, 2, none⟩ = some (Value.bool false) := (blk_cell BKC.out 2).trans rfl;
            have fc2 := blk_frozen BKC.out 2)
        | fail)
      clear hq1 hq2
      have k0 := below3 HB.out GC.out (.func (.func Kr) #[] cr) (.func (.func Kd_) #[] cd) (.bool wr)
      have k1 := far3 BK3.out N3C.out (.func (.func Kr) #[] cr) (.func (.func Kd_) #[] cd) (.bool wr)
      have k2 := far3 BK6.out N6C.out (.func (.func Kr) #[] cr) (.func (.func Kd_) #[] cd) (.bool wr)
      have k3 := far3 BKP.out NPC.out (.func (.func Kr) #[] cr) (.func (.func Kd_) #[] cd) (.bool wr)
      have k4 := put3 BKC.out (.func (.func Kr) #[] cr) (.func (.func Kd_) #[] cd) (.bool wr)
      have k5 := R3 HO.out BKC.out (by decide) (.func (.func Kr) #[] cr) (.func (.func Kd_) #[] cd) (.bool wr)
      have k6 := below3 H6.out GC6.out (.func (.func Kr) #[] cr) (.func (.func Kd_) #[] cd) (.bool wr)
      have k7 := (Kd.R_reads k5)
      obtain ⟨A7, c7, he7, hl7, hr7⟩ := k7
      obtain ⟨rfl, rfl⟩ : A7 = Ao ∧ c7 = co := by injection he7 with e1 _ e2; exact ⟨e1.symm, e2.symm⟩
      clear he7
      refine ((disk_place.calls A7 c7 l false fu fa name _ _ _ hr7 hl7 (by rw [disk_place.f, if_pos hle])).mono ?_)
      rintro e w9 ⟨rfl, hb⟩
      obtain ⟨i, hi⟩ : ∃ i, i = bsOf l name := ⟨_, rfl⟩
      rw [← hi]
      obtain ⟨b, hbe⟩ : ∃ b, b = isAt l name i := ⟨_, rfl⟩
      rw [← hbe]
      have HI := Aside0.mk hi
      have HBE := Aside0.mk hbe
      have hil : i ≤ l.length := by rw [hi]; exact (bsGo_le l name _ _ _ (Nat.zero_le _)).2
      have hib : Aside0 (b = true → i < l.length) := ⟨fun h => by
        rw [hbe, isAt, Bool.and_eq_true, decide_eq_true_eq] at h
        exact h.1⟩
      clear hi hbe hl7 hr7
      have n0_ := Aside0.mk (below_step k0 hb); have n1_ := Aside0.mk (blk_below k1 hb); have n2_ := Aside0.mk (blk_below k2 hb); have n3_ := Aside0.mk (blk_below k3 hb); have n4_ := Aside0.mk (blk_below k4 hb); have n5_ := Aside0.mk (Kd.R_below k5 hb); have n6_ := Aside0.mk (below_step k6 hb)
      clear HB BK3 BK6 BKP BKC HO H6 k0 k1 k2 k3 k4 k5 k6; clear ca0 fa0 ca1 fa1 ca2 fa2 ca3 fa3; clear cc0 fc0 cc1 fc1 cc2 fc2; have HB := n0_; have BK3 := n1_; have BK6 := n2_; have BKP := n3_; have BKC := n4_; have HO := n5_; have H6 := n6_; clear n0_ n1_ n2_ n3_ n4_ n5_ n6_ hb
      have cc0 : w9.cell? ⟨gc, 0, none⟩ = some (Value.func (.func Kr) #[] cr) := (blk_cell BKC.out 0).trans rfl
      have fc0 := blk_frozen BKC.out 0
      have cc1 : w9.cell? ⟨gc, 1, none⟩ = some (Value.func (.func Kd_) #[] cd) := (blk_cell BKC.out 1).trans rfl
      have fc1 := blk_frozen BKC.out 1
      have cc2 : w9.cell? ⟨gc, 2, none⟩ = some (Value.bool wr) := (blk_cell BKC.out 2).trans rfl
      have fc2 := blk_frozen BKC.out 2
      have hKr := HKr.out
      go_wp2_with fail
      rw [hKr _ _, Oper.upon_enter]
      clear hKr
      refine ((Hrf.out w9 i b (KeepT.of_below H6.out) hil hib.out).mono ?_)
      rintro e w10 ⟨rfl, hb⟩
      obtain ⟨r, hr⟩ : ∃ r, r = rf (i : Int) b := ⟨_, rfl⟩
      rw [← hr]
      have HRF := Aside0.mk hr
      clear hr
      have n0_ := Aside0.mk (below_step HB.out hb); have n1_ := Aside0.mk (blk_below BK3.out hb); have n2_ := Aside0.mk (blk_below BK6.out hb); have n3_ := Aside0.mk (blk_below BKP.out hb); have n4_ := Aside0.mk (blk_below BKC.out hb); have n5_ := Aside0.mk (Kd.R_below HO.out hb); have n6_ := Aside0.mk (below_step H6.out hb)
      clear HB BK3 BK6 BKP BKC HO H6; clear cc0 fc0 cc1 fc1 cc2 fc2; have HB := n0_; have BK3 := n1_; have BK6 := n2_; have BKP := n3_; have BKC := n4_; have HO := n5_; have H6 := n6_; clear n0_ n1_ n2_ n3_ n4_ n5_ n6_ hb
      have ca0 : w10.cell? ⟨g3, 0, none⟩ = some (Value.slice A7 l.length c7) := (blk_cell BK3.out 0).trans rfl
      have fa0 := blk_frozen BK3.out 0
      have ca1 : w10.cell? ⟨g3, 1, none⟩ = some (Value.bool false) := (blk_cell BK3.out 1).trans rfl
      have fa1 := blk_frozen BK3.out 1
      have ca2 : w10.cell? ⟨g3, 2, none⟩ = some (Value.int .i64 fu) := (blk_cell BK3.out 2).trans rfl
      have fa2 := blk_frozen BK3.out 2
      have ca3 : w10.cell? ⟨g3, 3, none⟩ = some (Value.int .i64 fa) := (blk_cell BK3.out 3).trans rfl
      have fa3 := blk_frozen BK3.out 3
      have cb0 : w10.cell? ⟨g6, 0, none⟩ = some (Value.slice none 0 0) := (blk_cell BK6.out 0).trans rfl
      have fb0 := blk_frozen BK6.out 0
      have cb1 : w10.cell? ⟨g6, 1, none⟩ = some (Value.bool false) := (blk_cell BK6.out 1).trans rfl
      have fb1 := blk_frozen BK6.out 1
      have cb2 : w10.cell? ⟨g6, 2, none⟩ = some (Value.int .i64 0) := (blk_cell BK6.out 2).trans rfl
      have fb2 := blk_frozen BK6.out 2
      have cb3 : w10.cell? ⟨g6, 3, none⟩ = some (Value.int .i64 0) := (blk_cell BK6.out 3).trans rfl
      have fb3 := blk_frozen BK6.out 3
      have cp0 : w10.cell? ⟨gp, 0, none⟩ = some (Value.slice A7 l.length c7) := (blk_cell BKP.out 0).trans rfl
      have fp0 := blk_frozen BKP.out 0
      have cp1 : w10.cell? ⟨gp, 1, none⟩ = some (Value.bool false) := (blk_cell BKP.out 1).trans rfl
      have fp1 := blk_frozen BKP.out 1
      have cp2 : w10.cell? ⟨gp, 2, none⟩ = some (Value.int .i64 fu) := (blk_cell BKP.out 2).trans rfl
      have fp2 := blk_frozen BKP.out 2
      have cp3 : w10.cell? ⟨gp, 3, none⟩ = some (Value.int .i64 fa) := (blk_cell BKP.out 3).trans rfl
      have fp3 := blk_frozen BKP.out 3
      have cc0 : w10.cell? ⟨gc, 0, none⟩ = some (Value.func (.func Kr) #[] cr) := (blk_cell BKC.out 0).trans rfl
      have fc0 := blk_frozen BKC.out 0
      have cc1 : w10.cell? ⟨gc, 1, none⟩ = some (Value.func (.func Kd_) #[] cd) := (blk_cell BKC.out 1).trans rfl
      have fc1 := blk_frozen BKC.out 1
      have cc2 : w10.cell? ⟨gc, 2, none⟩ = some (Value.bool wr) := (blk_cell BKC.out 2).trans rfl
      have fc2 := blk_frozen BKC.out 2
      by_cases hr0 : r = 0
      · subst hr0
        have q1 : g3 ≠ gp := N3P.out
        have q2 : gp ≠ g3 := fun e => N3P.out e.symm
        have q3 : g6 ≠ gp := N6P.out
        have q4 : gp ≠ g6 := fun e => N6P.out e.symm
        have q5 : gp ≠ gc := NPC.out
        have q6 : gc ≠ gp := fun e => NPC.out e.symm
        by_cases hf0 : fa = 0
        · have hf1 : (fa == 0) = true := by simpa using hf0
          have HE : Aside0 (R = (l, false, fu, -1, 18)) := ⟨by rw [HRR.out, changedF, if_pos HOK.out, if_neg (by decide), ← HI.out, ← HBE.out, ← HRF.out, if_pos rfl, if_pos hf0]⟩
          go_wp2
          refine bodyPost_ret (results_ct rfl _ _ g6 24 #[Value.slice A7 l.length c7, Value.bool false, Value.int .i64 fu, Value.int .i64 (-1)] (0, 0) _ rfl (put4 (blk_far (p := ⟨gp, 3, none⟩) BK6.out N6P.out (Value.int .i64 (-1))) _ _ _ _) Try.underlying24 rfl (by kernel_rfl)) rfl ?_
          rw [HE.out]
          exact ⟨_, rfl, R4 (R1 (j := 3) HO.out BKP.out (by decide) (Value.int .i64 (-1))) (blk_far (p := ⟨gp, 3, none⟩) BK6.out N6P.out (Value.int .i64 (-1))) (by decide) _ _ _ _, below4 (below_set (j := 3) (v := Value.int .i64 (-1)) HB.out GP.out) G6.out _ _ _ _⟩
        · have hf1 : (fa == 0) = false := by simpa using hf0
          by_cases hfp : 0 < fa
          · have hfd : decide (0 < fa) = true := by simpa using hfp
            by_cases hu0 : fu = 0
            · have hu1 : (fu == 0) = true := by simpa using hu0
              have HU0 := Aside0.mk hu0
              clear hu0
              cases wr with
              | true =>
                have HE : Aside0 (R = (df (i : Int), true, fu, wrap64 (fa - 1), 17)) := ⟨by rw [HRR.out, changedF, if_pos HOK.out, if_neg (by decide), ← HI.out, ← HBE.out, ← HRF.out, if_pos rfl, if_neg hf0, if_pos HU0.out, if_pos rfl, if_pos hfp]⟩
                have hKd := HKd.out
                go_wp2_with fail
                rw [hKd _ _, Oper.upon_enter]
                clear hKd
                have k0 := (blk_far (p := ⟨gp, 1, none⟩) (blk_far (p := ⟨gp, 3, none⟩) BK6.out N6P.out (Value.int .i64 (wrap64 (fa - 1)))) N6P.out (Value.bool true))
                have k1 := (below_set (j := 1) (v := Value.bool true) (below_set (j := 3) (v := Value.int .i64 (wrap64 (fa - 1))) HB.out GP.out) GP.out)
                refine ((Hdo.out ((w10.setCell ⟨gp, 3, none⟩ (Value.int .i64 (wrap64 (fa - 1)))).setCell ⟨gp, 1, none⟩ (Value.bool true)) i b _ _ _ (KeepT.of_keep (KeepBut.set_ (KeepBut.set_ (KeepBut.of_below H6.out gp none) 3 (Value.int .i64 (wrap64 (fa - 1)))) 1 (Value.bool true))) hil hib.out HRF.out.symm (blk_put (cs' := #[Value.slice A7 l.length c7, Value.bool true, Value.int .i64 fu, Value.int .i64 (wrap64 (fa - 1))]) (blk_put (cs' := #[Value.slice A7 l.length c7, Value.bool false, Value.int .i64 fu, Value.int .i64 (wrap64 (fa - 1))]) BKP.out 3 (Value.int .i64 (wrap64 (fa - 1))) rfl) 1 (Value.bool true) rfl) (R1 (j := 1) (R1 (j := 3) HO.out BKP.out (by decide) (Value.int .i64 (wrap64 (fa - 1)))) (blk_put (cs' := #[Value.slice A7 l.length c7, Value.bool false, Value.int .i64 fu, Value.int .i64 (wrap64 (fa - 1))]) BKP.out 3 (Value.int .i64 (wrap64 (fa - 1))) rfl) (by decide) (Value.bool true))).mono ?_)
                rintro e w12 ⟨rfl, v', hp', ho', hb', h24⟩
                obtain ⟨A8, c8, e8⟩ := Kd.R_slice ho'
                subst e8
                have n0_ := Aside0.mk (k1.trans hb'); have n1_ := Aside0.mk (h24 g6 _ k0); have n2_ := Aside0.mk hp'; have n3_ := Aside0.mk ho'
                clear BK3 BKP BKC BK6 HB HO H6 k0 k1 hp' ho' hb' h24; clear ca0 fa0 ca1 fa1 ca2 fa2 ca3 fa3; clear cb0 fb0 cb1 fb1 cb2 fb2 cb3 fb3; clear cp0 fp0 cp1 fp1 cp2 fp2 cp3 fp3; clear cc0 fc0 cc1 fc1 cc2 fc2
                have HB := n0_; have BK6 := n1_; have BKP := n2_; have HO := n3_; clear n0_ n1_ n2_ n3_
                have cp0 : w12.cell? ⟨gp, 0, none⟩ = some (Value.slice A8 (df (i : Int)).length c8) := (blk_cell BKP.out 0).trans rfl
                have fp0 := blk_frozen BKP.out 0
                have cp1 : w12.cell? ⟨gp, 1, none⟩ = some (Value.bool true) := (blk_cell BKP.out 1).trans rfl
                have fp1 := blk_frozen BKP.out 1
                have cp2 : w12.cell? ⟨gp, 2, none⟩ = some (Value.int .i64 fu) := (blk_cell BKP.out 2).trans rfl
                have fp2 := blk_frozen BKP.out 2
                have cp3 : w12.cell? ⟨gp, 3, none⟩ = some (Value.int .i64 (wrap64 (fa - 1))) := (blk_cell BKP.out 3).trans rfl
                have fp3 := blk_frozen BKP.out 3
                have cb0 : w12.cell? ⟨g6, 0, none⟩ = some (Value.slice none 0 0) := (blk_cell BK6.out 0).trans rfl
                have fb0 := blk_frozen BK6.out 0
                have cb1 : w12.cell? ⟨g6, 1, none⟩ = some (Value.bool false) := (blk_cell BK6.out 1).trans rfl
                have fb1 := blk_frozen BK6.out 1
                have cb2 : w12.cell? ⟨g6, 2, none⟩ = some (Value.int .i64 0) := (blk_cell BK6.out 2).trans rfl
                have fb2 := blk_frozen BK6.out 2
                have cb3 : w12.cell? ⟨g6, 3, none⟩ = some (Value.int .i64 0) := (blk_cell BK6.out 3).trans rfl
                have fb3 := blk_frozen BK6.out 3
                go_wp2
                refine bodyPost_ret (results_ct rfl _ _ g6 24 #[Value.slice A8 (df (i : Int)).length c8, Value.bool true, Value.int .i64 fu, Value.int .i64 (wrap64 (fa - 1))] (0, 0) _ rfl (put4 BK6.out _ _ _ _) Try.underlying24 rfl (by kernel_rfl)) rfl ?_
                rw [HE.out]
                exact ⟨_, rfl, R4 HO.out BK6.out (by decide) _ _ _ _, below4 HB.out G6.out _ _ _ _⟩
              | false =>
                have HE : Aside0 (R = (l, true, fu, wrap64 (fa - 1), 17)) := ⟨by rw [HRR.out, changedF, if_pos HOK.out, if_neg (by decide), ← HI.out, ← HBE.out, ← HRF.out, if_pos rfl, if_neg hf0, if_pos HU0.out, if_neg (by decide), if_pos hfp]⟩
                go_wp2
                refine bodyPost_ret (results_ct rfl _ _ g6 24 #[Value.slice A7 l.length c7, Value.bool true, Value.int .i64 fu, Value.int .i64 (wrap64 (fa - 1))] (0, 0) _ rfl (put4 (blk_far (p := ⟨gp, 1, none⟩) (blk_far (p := ⟨gp, 3, none⟩) BK6.out N6P.out (Value.int .i64 (wrap64 (fa - 1)))) N6P.out (Value.bool true)) _ _ _ _) Try.underlying24 rfl (by kernel_rfl)) rfl ?_
                rw [HE.out]
                exact ⟨_, rfl, R4 (R1 (j := 1) (R1 (j := 3) HO.out BKP.out (by decide) (Value.int .i64 (wrap64 (fa - 1)))) (blk_put (cs' := #[Value.slice A7 l.length c7, Value.bool false, Value.int .i64 fu, Value.int .i64 (wrap64 (fa - 1))]) BKP.out 3 (Value.int .i64 (wrap64 (fa - 1))) rfl) (by decide) (Value.bool true)) (blk_far (p := ⟨gp, 1, none⟩) (blk_far (p := ⟨gp, 3, none⟩) BK6.out N6P.out (Value.int .i64 (wrap64 (fa - 1)))) N6P.out (Value.bool true)) (by decide) _ _ _ _, below4 (below_set (j := 1) (v := Value.bool true) (below_set (j := 3) (v := Value.int .i64 (wrap64 (fa - 1))) HB.out GP.out) GP.out) G6.out _ _ _ _⟩
            · have hu1 : (fu == 0) = false := by simpa using hu0
              by_cases hup : 0 < fu
              · have hud : decide (0 < fu) = true := by simpa using hup
                have HE : Aside0 (R = (df (i : Int), false, wrap64 (fu - 1), wrap64 (fa - 1), 0)) := ⟨by rw [HRR.out, changedF, if_pos HOK.out, if_neg (by decide), ← HI.out, ← HBE.out, ← HRF.out, if_pos rfl, if_neg hf0, if_neg hu0, if_pos hup, if_pos hfp]⟩
                have hKd := HKd.out
                go_wp2_with fail
                rw [hKd _ _, Oper.upon_enter]
                clear hKd
                have k0 := (blk_far (p := ⟨gp, 2, none⟩) (blk_far (p := ⟨gp, 3, none⟩) BK6.out N6P.out (Value.int .i64 (wrap64 (fa - 1)))) N6P.out (Value.int .i64 (wrap64 (fu - 1))))
                have k1 := (below_set (j := 2) (v := Value.int .i64 (wrap64 (fu - 1))) (below_set (j := 3) (v := Value.int .i64 (wrap64 (fa - 1))) HB.out GP.out) GP.out)
                refine ((Hdo.out ((w10.setCell ⟨gp, 3, none⟩ (Value.int .i64 (wrap64 (fa - 1)))).setCell ⟨gp, 2, none⟩ (Value.int .i64 (wrap64 (fu - 1)))) i b _ _ _ (KeepT.of_keep (KeepBut.set_ (KeepBut.set_ (KeepBut.of_below H6.out gp none) 3 (Value.int .i64 (wrap64 (fa - 1)))) 2 (Value.int .i64 (wrap64 (fu - 1))))) hil hib.out HRF.out.symm (blk_put (cs' := #[Value.slice A7 l.length c7, Value.bool false, Value.int .i64 (wrap64 (fu - 1)), Value.int .i64 (wrap64 (fa - 1))]) (blk_put (cs' := #[Value.slice A7 l.length c7, Value.bool false, Value.int .i64 fu, Value.int .i64 (wrap64 (fa - 1))]) BKP.out 3 (Value.int .i64 (wrap64 (fa - 1))) rfl) 2 (Value.int .i64 (wrap64 (fu - 1))) rfl) (R1 (j := 2) (R1 (j := 3) HO.out BKP.out (by decide) (Value.int .i64 (wrap64 (fa - 1)))) (blk_put (cs' := #[Value.slice A7 l.length c7, Value.bool false, Value.int .i64 fu, Value.int .i64 (wrap64 (fa - 1))]) BKP.out 3 (Value.int .i64 (wrap64 (fa - 1))) rfl) (by decide) (Value.int .i64 (wrap64 (fu - 1))))).mono ?_)
                rintro e w12 ⟨rfl, v', hp', ho', hb', h24⟩
                obtain ⟨A8, c8, e8⟩ := Kd.R_slice ho'
                subst e8
                have n0_ := Aside0.mk (k1.trans hb'); have n1_ := Aside0.mk (h24 g6 _ k0); have n2_ := Aside0.mk hp'; have n3_ := Aside0.mk ho'
                clear BK3 BKP BKC BK6 HB HO H6 k0 k1 hp' ho' hb' h24; clear ca0 fa0 ca1 fa1 ca2 fa2 ca3 fa3; clear cb0 fb0 cb1 fb1 cb2 fb2 cb3 fb3; clear cp0 fp0 cp1 fp1 cp2 fp2 cp3 fp3; clear cc0 fc0 cc1 fc1 cc2 fc2
                have HB := n0_; have BK6 := n1_; have BKP := n2_; have HO := n3_; clear n0_ n1_ n2_ n3_
                have cp0 : w12.cell? ⟨gp, 0, none⟩ = some (Value.slice A8 (df (i : Int)).length c8) := (blk_cell BKP.out 0).trans rfl
                have fp0 := blk_frozen BKP.out 0
                have cp1 : w12.cell? ⟨gp, 1, none⟩ = some (Value.bool false) := (blk_cell BKP.out 1).trans rfl
                have fp1 := blk_frozen BKP.out 1
                have cp2 : w12.cell? ⟨gp, 2, none⟩ = some (Value.int .i64 (wrap64 (fu - 1))) := (blk_cell BKP.out 2).trans rfl
                have fp2 := blk_frozen BKP.out 2
                have cp3 : w12.cell? ⟨gp, 3, none⟩ = some (Value.int .i64 (wrap64 (fa - 1))) := (blk_cell BKP.out 3).trans rfl
                have fp3 := blk_frozen BKP.out 3
                have cb0 : w12.cell? ⟨g6, 0, none⟩ = some (Value.slice none 0 0) := (blk_cell BK6.out 0).trans rfl
                have fb0 := blk_frozen BK6.out 0
                have cb1 : w12.cell? ⟨g6, 1, none⟩ = some (Value.bool false) := (blk_cell BK6.out 1).trans rfl
                have fb1 := blk_frozen BK6.out 1
                have cb2 : w12.cell? ⟨g6, 2, none⟩ = some (Value.int .i64 0) := (blk_cell BK6.out 2).trans rfl
                have fb2 := blk_frozen BK6.out 2
                have cb3 : w12.cell? ⟨g6, 3, none⟩ = some (Value.int .i64 0) := (blk_cell BK6.out 3).trans rfl
                have fb3 := blk_frozen BK6.out 3
                go_wp2
                refine bodyPost_ret (results_ct rfl _ _ g6 24 #[Value.slice A8 (df (i : Int)).length c8, Value.bool false, Value.int .i64 (wrap64 (fu - 1)), Value.int .i64 (wrap64 (fa - 1))] (0, 0) _ rfl (put4 BK6.out _ _ _ _) Try.underlying24 rfl (by kernel_rfl)) rfl ?_
                rw [HE.out]
                exact ⟨_, rfl, R4 HO.out BK6.out (by decide) _ _ _ _, below4 HB.out G6.out _ _ _ _⟩
              · have hud : decide (0 < fu) = false := by simpa using hup
                have HE : Aside0 (R = (df (i : Int), false, fu, wrap64 (fa - 1), 0)) := ⟨by rw [HRR.out, changedF, if_pos HOK.out, if_neg (by decide), ← HI.out, ← HBE.out, ← HRF.out, if_pos rfl, if_neg hf0, if_neg hu0, if_neg hup, if_pos hfp]⟩
                have hKd := HKd.out
                go_wp2_with fail
                rw [hKd _ _, Oper.upon_enter]
                clear hKd
                have k0 := (blk_far (p := ⟨gp, 3, none⟩) BK6.out N6P.out (Value.int .i64 (wrap64 (fa - 1))))
                have k1 := (below_set (j := 3) (v := Value.int .i64 (wrap64 (fa - 1))) HB.out GP.out)
                refine ((Hdo.out (w10.setCell ⟨gp, 3, none⟩ (Value.int .i64 (wrap64 (fa - 1)))) i b _ _ _ (KeepT.of_keep (KeepBut.set_ (KeepBut.of_below H6.out gp none) 3 (Value.int .i64 (wrap64 (fa - 1))))) hil hib.out HRF.out.symm (blk_put (cs' := #[Value.slice A7 l.length c7, Value.bool false, Value.int .i64 fu, Value.int .i64 (wrap64 (fa - 1))]) BKP.out 3 (Value.int .i64 (wrap64 (fa - 1))) rfl) (R1 (j := 3) HO.out BKP.out (by decide) (Value.int .i64 (wrap64 (fa - 1))))).mono ?_)
                rintro e w12 ⟨rfl, v', hp', ho', hb', h24⟩
                obtain ⟨A8, c8, e8⟩ := Kd.R_slice ho'
                subst e8
                have n0_ := Aside0.mk (k1.trans hb'); have n1_ := Aside0.mk (h24 g6 _ k0); have n2_ := Aside0.mk hp'; have n3_ := Aside0.mk ho'
                clear BK3 BKP BKC BK6 HB HO H6 k0 k1 hp' ho' hb' h24; clear ca0 fa0 ca1 fa1 ca2 fa2 ca3 fa3; clear cb0 fb0 cb1 fb1 cb2 fb2 cb3 fb3; clear cp0 fp0 cp1 fp1 cp2 fp2 cp3 fp3; clear cc0 fc0 cc1 fc1 cc2 fc2
                have HB := n0_; have BK6 := n1_; have BKP := n2_; have HO := n3_; clear n0_ n1_ n2_ n3_
                have cp0 : w12.cell? ⟨gp, 0, none⟩ = some (Value.slice A8 (df (i : Int)).length c8) := (blk_cell BKP.out 0).trans rfl
                have fp0 := blk_frozen BKP.out 0
                have cp1 : w12.cell? ⟨gp, 1, none⟩ = some (Value.bool false) := (blk_cell BKP.out 1).trans rfl
                have fp1 := blk_frozen BKP.out 1
                have cp2 : w12.cell? ⟨gp, 2, none⟩ = some (Value.int .i64 fu) := (blk_cell BKP.out 2).trans rfl
                have fp2 := blk_frozen BKP.out 2
                have cp3 : w12.cell? ⟨gp, 3, none⟩ = some (Value.int .i64 (wrap64 (fa - 1))) := (blk_cell BKP.out 3).trans rfl
                have fp3 := blk_frozen BKP.out 3
                have cb0 : w12.cell? ⟨g6, 0, none⟩ = some (Value.slice none 0 0) := (blk_cell BK6.out 0).trans rfl
                have fb0 := blk_frozen BK6.out 0
                have cb1 : w12.cell? ⟨g6, 1, none⟩ = some (Value.bool false) := (blk_cell BK6.out 1).trans rfl
                have fb1 := blk_frozen BK6.out 1
                have cb2 : w12.cell? ⟨g6, 2, none⟩ = some (Value.int .i64 0) := (blk_cell BK6.out 2).trans rfl
                have fb2 := blk_frozen BK6.out 2
                have cb3 : w12.cell? ⟨g6, 3, none⟩ = some (Value.int .i64 0) := (blk_cell BK6.out 3).trans rfl
                have fb3 := blk_frozen BK6.out 3
                go_wp2
                refine bodyPost_ret (results_ct rfl _ _ g6 24 #[Value.slice A8 (df (i : Int)).length c8, Value.bool false, Value.int .i64 fu, Value.int .i64 (wrap64 (fa - 1))] (0, 0) _ rfl (put4 BK6.out _ _ _ _) Try.underlying24 rfl (by kernel_rfl)) rfl ?_
                rw [HE.out]
                exact ⟨_, rfl, R4 HO.out BK6.out (by decide) _ _ _ _, below4 HB.out G6.out _ _ _ _⟩
          · have hfd : decide (0 < fa) = false := by simpa using hfp
            by_cases hu0 : fu = 0
            · have hu1 : (fu == 0) = true := by simpa using hu0
              have HU0 := Aside0.mk hu0
              clear hu0
              cases wr with
              | true =>
                have HE : Aside0 (R = (df (i : Int), true, fu, fa, 17)) := ⟨by rw [HRR.out, changedF, if_pos HOK.out, if_neg (by decide), ← HI.out, ← HBE.out, ← HRF.out, if_pos rfl, if_neg hf0, if_pos HU0.out, if_pos rfl, if_neg hfp]⟩
                have hKd := HKd.out
                go_wp2_with fail
                rw [hKd _ _, Oper.upon_enter]
                clear hKd
                have k0 := (blk_far (p := ⟨gp, 1, none⟩) BK6.out N6P.out (Value.bool true))
                have k1 := (below_set (j := 1) (v := Value.bool true) HB.out GP.out)
                refine ((Hdo.out (w10.setCell ⟨gp, 1, none⟩ (Value.bool true)) i b _ _ _ (KeepT.of_keep (KeepBut.set_ (KeepBut.of_below H6.out gp none) 1 (Value.bool true))) hil hib.out HRF.out.symm (blk_put (cs' := #[Value.slice A7 l.length c7, Value.bool true, Value.int .i64 fu, Value.int .i64 fa]) BKP.out 1 (Value.bool true) rfl) (R1 (j := 1) HO.out BKP.out (by decide) (Value.bool true))).mono ?_)
                rintro e w12 ⟨rfl, v', hp', ho', hb', h24⟩
                obtain ⟨A8, c8, e8⟩ := Kd.R_slice ho'
                subst e8
                have n0_ := Aside0.mk (k1.trans hb'); have n1_ := Aside0.mk (h24 g6 _ k0); have n2_ := Aside0.mk hp'; have n3_ := Aside0.mk ho'
                clear BK3 BKP BKC BK6 HB HO H6 k0 k1 hp' ho' hb' h24; clear ca0 fa0 ca1 fa1 ca2 fa2 ca3 fa3; clear cb0 fb0 cb1 fb1 cb2 fb2 cb3 fb3; clear cp0 fp0 cp1 fp1 cp2 fp2 cp3 fp3; clear cc0 fc0 cc1 fc1 cc2 fc2
                have HB := n0_; have BK6 := n1_; have BKP := n2_; have HO := n3_; clear n0_ n1_ n2_ n3_
                have cp0 : w12.cell? ⟨gp, 0, none⟩ = some (Value.slice A8 (df (i : Int)).length c8) := (blk_cell BKP.out 0).trans rfl
                have fp0 := blk_frozen BKP.out 0
                have cp1 : w12.cell? ⟨gp, 1, none⟩ = some (Value.bool true) := (blk_cell BKP.out 1).trans rfl
                have fp1 := blk_frozen BKP.out 1
                have cp2 : w12.cell? ⟨gp, 2, none⟩ = some (Value.int .i64 fu) := (blk_cell BKP.out 2).trans rfl
                have fp2 := blk_frozen BKP.out 2
                have cp3 : w12.cell? ⟨gp, 3, none⟩ = some (Value.int .i64 fa) := (blk_cell BKP.out 3).trans rfl
                have fp3 := blk_frozen BKP.out 3
                have cb0 : w12.cell? ⟨g6, 0, none⟩ = some (Value.slice none 0 0) := (blk_cell BK6.out 0).trans rfl
                have fb0 := blk_frozen BK6.out 0
                have cb1 : w12.cell? ⟨g6, 1, none⟩ = some (Value.bool false) := (blk_cell BK6.out 1).trans rfl
                have fb1 := blk_frozen BK6.out 1
                have cb2 : w12.cell? ⟨g6, 2, none⟩ = some (Value.int .i64 0) := (blk_cell BK6.out 2).trans rfl
                have fb2 := blk_frozen BK6.out 2
                have cb3 : w12.cell? ⟨g6, 3, none⟩ = some (Value.int .i64 0) := (blk_cell BK6.out 3).trans rfl
                have fb3 := blk_frozen BK6.out 3
                go_wp2
                refine bodyPost_ret (results_ct rfl _ _ g6 24 #[Value.slice A8 (df (i : Int)).length c8, Value.bool true, Value.int .i64 fu, Value.int .i64 fa] (0, 0) _ rfl (put4 BK6.out _ _ _ _) Try.underlying24 rfl (by kernel_rfl)) rfl ?_
                rw [HE.out]
                exact ⟨_, rfl, R4 HO.out BK6.out (by decide) _ _ _ _, below4 HB.out G6.out _ _ _ _⟩
              | false =>
                have HE : Aside0 (R = (l, true, fu, fa, 17)) := ⟨by rw [HRR.out, changedF, if_pos HOK.out, if_neg (by decide), ← HI.out, ← HBE.out, ← HRF.out, if_pos rfl, if_neg hf0, if_pos HU0.out, if_neg (by decide), if_neg hfp]⟩
                go_wp2
                refine bodyPost_ret (results_ct rfl _ _ g6 24 #[Value.slice A7 l.length c7, Value.bool true, Value.int .i64 fu, Value.int .i64 fa] (0, 0) _ rfl (put4 (blk_far (p := ⟨gp, 1, none⟩) BK6.out N6P.out (Value.bool true)) _ _ _ _) Try.underlying24 rfl (by kernel_rfl)) rfl ?_
                rw [HE.out]
                exact ⟨_, rfl, R4 (R1 (j := 1) HO.out BKP.out (by decide) (Value.bool true)) (blk_far (p := ⟨gp, 1, none⟩) BK6.out N6P.out (Value.bool true)) (by decide) _ _ _ _, below4 (below_set (j := 1) (v := Value.bool true) HB.out GP.out) G6.out _ _ _ _⟩
            · have hu1 : (fu == 0) = false := by simpa using hu0
              by_cases hup : 0 < fu
              · have hud : decide (0 < fu) = true := by simpa using hup
                have HE : Aside0 (R = (df (i : Int), false, wrap64 (fu - 1), fa, 0)) := ⟨by rw [HRR.out, changedF, if_pos HOK.out, if_neg (by decide), ← HI.out, ← HBE.out, ← HRF.out, if_pos rfl, if_neg hf0, if_neg hu0, if_pos hup, if_neg hfp]⟩
                have hKd := HKd.out
                go_wp2_with fail
                rw [hKd _ _, Oper.upon_enter]
                clear hKd
                have k0 := (blk_far (p := ⟨gp, 2, none⟩) BK6.out N6P.out (Value.int .i64 (wrap64 (fu - 1))))
                have k1 := (below_set (j := 2) (v := Value.int .i64 (wrap64 (fu - 1))) HB.out GP.out)
                refine ((Hdo.out (w10.setCell ⟨gp, 2, none⟩ (Value.int .i64 (wrap64 (fu - 1)))) i b _ _ _ (KeepT.of_keep (KeepBut.set_ (KeepBut.of_below H6.out gp none) 2 (Value.int .i64 (wrap64 (fu - 1))))) hil hib.out HRF.out.symm (blk_put (cs' := #[Value.slice A7 l.length c7, Value.bool false, Value.int .i64 (wrap64 (fu - 1)), Value.int .i64 fa]) BKP.out 2 (Value.int .i64 (wrap64 (fu - 1))) rfl) (R1 (j := 2) HO.out BKP.out (by decide) (Value.int .i64 (wrap64 (fu - 1))))).mono ?_)
                rintro e w12 ⟨rfl, v', hp', ho', hb', h24⟩
                obtain ⟨A8, c8, e8⟩ := Kd.R_slice ho'
                subst e8
                have n0_ := Aside0.mk (k1.trans hb'); have n1_ := Aside0.mk (h24 g6 _ k0); have n2_ := Aside0.mk hp'; have n3_ := Aside0.mk ho'
                clear BK3 BKP BKC BK6 HB HO H6 k0 k1 hp' ho' hb' h24; clear ca0 fa0 ca1 fa1 ca2 fa2 ca3 fa3; clear cb0 fb0 cb1 fb1 cb2 fb2 cb3 fb3; clear cp0 fp0 cp1 fp1 cp2 fp2 cp3 fp3; clear cc0 fc0 cc1 fc1 cc2 fc2
                have HB := n0_; have BK6 := n1_; have BKP := n2_; have HO := n3_; clear n0_ n1_ n2_ n3_
                have cp0 : w12.cell? ⟨gp, 0, none⟩ = some (Value.slice A8 (df (i : Int)).length c8) := (blk_cell BKP.out 0).trans rfl
                have fp0 := blk_frozen BKP.out 0
                have cp1 : w12.cell? ⟨gp, 1, none⟩ = some (Value.bool false) := (blk_cell BKP.out 1).trans rfl
                have fp1 := blk_frozen BKP.out 1
                have cp2 : w12.cell? ⟨gp, 2, none⟩ = some (Value.int .i64 (wrap64 (fu - 1))) := (blk_cell BKP.out 2).trans rfl
                have fp2 := blk_frozen BKP.out 2
                have cp3 : w12.cell? ⟨gp, 3, none⟩ = some (Value.int .i64 fa) := (blk_cell BKP.out 3).trans rfl
                have fp3 := blk_frozen BKP.out 3
                have cb0 : w12.cell? ⟨g6, 0, none⟩ = some (Value.slice none 0 0) := (blk_cell BK6.out 0).trans rfl
                have fb0 := blk_frozen BK6.out 0
                have cb1 : w12.cell? ⟨g6, 1, none⟩ = some (Value.bool false) := (blk_cell BK6.out 1).trans rfl
                have fb1 := blk_frozen BK6.out 1
                have cb2 : w12.cell? ⟨g6, 2, none⟩ = some (Value.int .i64 0) := (blk_cell BK6.out 2).trans rfl
                have fb2 := blk_frozen BK6.out 2
                have cb3 : w12.cell? ⟨g6, 3, none⟩ = some (Value.int .i64 0) := (blk_cell BK6.out 3).trans rfl
                have fb3 := blk_frozen BK6.out 3
                go_wp2
                refine bodyPost_ret (results_ct rfl _ _ g6 24 #[Value.slice A8 (df (i : Int)).length c8, Value.bool false, Value.int .i64 (wrap64 (fu - 1)), Value.int .i64 fa] (0, 0) _ rfl (put4 BK6.out _ _ _ _) Try.underlying24 rfl (by kernel_rfl)) rfl ?_
                rw [HE.out]
                exact ⟨_, rfl, R4 HO.out BK6.out (by decide) _ _ _ _, below4 HB.out G6.out _ _ _ _⟩
              · have hud : decide (0 < fu) = false := by simpa using hup
                have HE : Aside0 (R = (df (i : Int), false, fu, fa, 0)) := ⟨by rw [HRR.out, changedF, if_pos HOK.out, if_neg (by decide), ← HI.out, ← HBE.out, ← HRF.out, if_pos rfl, if_neg hf0, if_neg hu0, if_neg hup, if_neg hfp]⟩
                have hKd := HKd.out
                go_wp2_with fail
                rw [hKd _ _, Oper.upon_enter]
                clear hKd
                have k0 := BK6.out
                have k1 := HB.out
                refine ((Hdo.out w10 i b _ _ _ (KeepT.of_keep (KeepBut.of_below H6.out gp none)) hil hib.out HRF.out.symm (BKP.out) HO.out).mono ?_)
                rintro e w12 ⟨rfl, v', hp', ho', hb', h24⟩
                obtain ⟨A8, c8, e8⟩ := Kd.R_slice ho'
                subst e8
                have n0_ := Aside0.mk (k1.trans hb'); have n1_ := Aside0.mk (h24 g6 _ k0); have n2_ := Aside0.mk hp'; have n3_ := Aside0.mk ho'
                clear BK3 BKP BKC BK6 HB HO H6 k0 k1 hp' ho' hb' h24; clear ca0 fa0 ca1 fa1 ca2 fa2 ca3 fa3; clear cb0 fb0 cb1 fb1 cb2 fb2 cb3 fb3; clear cp0 fp0 cp1 fp1 cp2 fp2 cp3 fp3; clear cc0 fc0 cc1 fc1 cc2 fc2
                have HB := n0_; have BK6 := n1_; have BKP := n2_; have HO := n3_; clear n0_ n1_ n2_ n3_
                have cp0 : w12.cell? ⟨gp, 0, none⟩ = some (Value.slice A8 (df (i : Int)).length c8) := (blk_cell BKP.out 0).trans rfl
                have fp0 := blk_frozen BKP.out 0
                have cp1 : w12.cell? ⟨gp, 1, none⟩ = some (Value.bool false) := (blk_cell BKP.out 1).trans rfl
                have fp1 := blk_frozen BKP.out 1
                have cp2 : w12.cell? ⟨gp, 2, none⟩ = some (Value.int .i64 fu) := (blk_cell BKP.out 2).trans rfl
                have fp2 := blk_frozen BKP.out 2
                have cp3 : w12.cell? ⟨gp, 3, none⟩ = some (Value.int .i64 fa) := (blk_cell BKP.out 3).trans rfl
                have fp3 := blk_frozen BKP.out 3
                have cb0 : w12.cell? ⟨g6, 0, none⟩ = some (Value.slice none 0 0) := (blk_cell BK6.out 0).trans rfl
                have fb0 := blk_frozen BK6.out 0
                have cb1 : w12.cell? ⟨g6, 1, none⟩ = some (Value.bool false) := (blk_cell BK6.out 1).trans rfl
                have fb1 := blk_frozen BK6.out 1
                have cb2 : w12.cell? ⟨g6, 2, none⟩ = some (Value.int .i64 0) := (blk_cell BK6.out 2).trans rfl
                have fb2 := blk_frozen BK6.out 2
                have cb3 : w12.cell? ⟨g6, 3, none⟩ = some (Value.int .i64 0) := (blk_cell BK6.out 3).trans rfl
                have fb3 := blk_frozen BK6.out 3
                go_wp2
                refine bodyPost_ret (results_ct rfl _ _ g6 24 #[Value.slice A8 (df (i : Int)).length c8, Value.bool false, Value.int .i64 fu, Value.int .i64 fa] (0, 0) _ rfl (put4 BK6.out _ _ _ _) Try.underlying24 rfl (by kernel_rfl)) rfl ?_
                rw [HE.out]
                exact ⟨_, rfl, R4 HO.out BK6.out (by decide) _ _ _ _, below4 HB.out G6.out _ _ _ _⟩
      · have HE : Aside0 (R = (l, false, fu, fa, r)) := ⟨by
          rw [HRR.out, changedF, if_pos HOK.out, if_neg (by decide), ← HI.out, ← HBE.out, ← HRF.out, if_neg hr0]⟩
        have hr1 : (r != 0) = true := by simpa using hr0
        clear hr0
        go_wp2
        refine bodyPost_ret (results_ct rfl _ _ g6 24 #[Value.slice A7 l.length c7, Value.bool false, Value.int .i64 fu, Value.int .i64 fa] (0, 0) _ rfl (put4 BK6.out _ _ _ _) Try.underlying24 rfl (by kernel_rfl)) rfl ?_
        rw [HE.out]
        exact ⟨_, rfl, R4 HO.out BK6.out (by decide) _ _ _ _, below4 HB.out G6.out _ _ _ _⟩
  · refine ((disk_Check.calls A c l dn fu fa 6 w2 (Kd.C_below HR.out HB.out) hc (by rw [disk_Check.f, if_neg hok])).mono ?_)
    rintro e w3 ⟨rfl, hb⟩
    have n0_ := Aside0.mk (below_step HB.out hb); have n1_ := Aside0.mk (blk_below BK3.out hb); have n2_ := Aside0.mk (blk_below BK6.out hb)
    clear HB BK3 BK6 hc3_0 hc3_1 hc3_2 hc3_3; have HB := n0_; have BK3 := n1_; have BK6 := n2_; clear n0_ n1_ n2_ hb
    have cb0 : w3.cell? ⟨g6, 0, none⟩ = some (Value.slice none 0 0) := (blk_cell BK6.out 0).trans rfl
    have fb0 := blk_frozen BK6.out 0
    have cb1 : w3.cell? ⟨g6, 1, none⟩ = some (Value.bool false) := (blk_cell BK6.out 1).trans rfl
    have fb1 := blk_frozen BK6.out 1
    have cb2 : w3.cell? ⟨g6, 2, none⟩ = some (Value.int .i64 0) := (blk_cell BK6.out 2).trans rfl
    have fb2 := blk_frozen BK6.out 2
    have cb3 : w3.cell? ⟨g6, 3, none⟩ = some (Value.int .i64 0) := (blk_cell BK6.out 3).trans rfl
    have fb3 := blk_frozen BK6.out 3
    have HE : Aside0 (R = ([], false, 0, 0, 6)) := ⟨by rw [HRR.out, changedF, if_neg hok]⟩
    clear hok
    go_wp2_with fail
    refine bodyPost_ret (results_ct rfl _ _ g6 24 #[.slice none 0 0, .bool false, .int .i64 0, .int .i64 0] (0, 0) _ rfl (put4 BK6.out _ _ _ _) Try.underlying24 rfl (by kernel_rfl)) rfl ?_
    rw [HE.out]
    exact ⟨_, rfl, Kd.R_nil _ _ _ _ _, below4 HB.out G6.out _ _ _ _⟩
end Go.Proofs.Ytanonhipicoigaa.T

namespace Go.Proofs.Ytanonhipicoigaa.T
open Go.RowKit Go.Proofs.YtanonhipicoigaaW.PrintWords Go.Proofs.YtanonhipicoigaaW.PrintLast Go.Proofs.YtanonhipicoigaaW.PrintMore
set_option linter.unusedVariables false
set_option linter.unusedSimpArgs false

/-! ### Files as cells -/
def cells3 (x : S43) : List Value := [.string x.f0, .string x.f1, .int .i64 x.f2]
def cellsOf (l : List S43) : List Value := l.flatMap cells3
theorem cellsOf_nil : cellsOf [] = [] := rfl
theorem cellsOf_cons (x : S43) (l : List S43) : cellsOf (x :: l) = .string x.f0 :: .string x.f1 :: .int .i64 x.f2 :: cellsOf l := rfl
theorem cellsOf_append (a b : List S43) : cellsOf (a ++ b) = cellsOf a ++ cellsOf b := by simp [cellsOf]
theorem cellsOf_length : ∀ l : List S43, (cellsOf l).length = l.length * 3
  | [] => rfl
  | x :: l => by rw [cellsOf_cons]; simp only [List.length_cons]; rw [cellsOf_length l]; omega
theorem cellsOf_take : ∀ (l : List S43) (i : Nat), cellsOf (l.take i) = (cellsOf l).take (i * 3)
  | [], i => by simp [cellsOf]
  | x :: l, 0 => by simp [cellsOf]
  | x :: l, i + 1 => by
    rw [List.take_succ_cons, cellsOf_cons, cellsOf_cons, cellsOf_take l i, show (i + 1) * 3 = i * 3 + 1 + 1 + 1 by omega]
    simp only [List.take_succ_cons]
theorem cellsOf_drop : ∀ (l : List S43) (i : Nat), cellsOf (l.drop i) = (cellsOf l).drop (i * 3)
  | [], i => by simp [cellsOf]
  | x :: l, 0 => by simp
  | x :: l, i + 1 => by
    rw [List.drop_succ_cons, cellsOf_cons, cellsOf_drop l i, show (i + 1) * 3 = i * 3 + 1 + 1 + 1 by omega]
    simp only [List.drop_succ_cons]
theorem cellsOf_set1 : ∀ (l : List S43) (i : Nat) (x : S43) (u : ByteArray), l[i]? = some x → (cellsOf l).set (i * 3 + 1) (.string u) = cellsOf (l.set i ⟨x.f0, u, x.f2⟩)
  | [], i, x, u, h => by simp at h
  | y :: l, 0, x, u, h => by
    obtain rfl : y = x := by simpa using h
    simp [cellsOf_cons]
  | y :: l, i + 1, x, u, h => by
    show _ = cellsOf (y :: l.set i _)
    rw [cellsOf_cons, cellsOf_cons, ← cellsOf_set1 l i x u (by simpa using h), show (i + 1) * 3 + 1 = i * 3 + 1 + 1 + 1 + 1 by omega]
    simp only [List.set_cons_succ]
theorem cellsOf_set2 : ∀ (l : List S43) (i : Nat) (x : S43) (u : Int), l[i]? = some x → (cellsOf l).set (i * 3 + 2) (.int .i64 u) = cellsOf (l.set i ⟨x.f0, x.f1, u⟩)
  | [], i, x, u, h => by simp at h
  | y :: l, 0, x, u, h => by
    obtain rfl : y = x := by simpa using h
    simp [cellsOf_cons]
  | y :: l, i + 1, x, u, h => by
    show _ = cellsOf (y :: l.set i _)
    rw [cellsOf_cons, cellsOf_cons, ← cellsOf_set2 l i x u (by simpa using h), show (i + 1) * 3 + 2 = i * 3 + 2 + 1 + 1 + 1 by omega]
    simp only [List.set_cons_succ]
theorem cellsOf_get : ∀ (l : List S43) (i : Nat) (x : S43), l[i]? = some x → (cellsOf l)[i * 3]? = some (.string x.f0) ∧ (cellsOf l)[i * 3 + 1]? = some (.string x.f1) ∧ (cellsOf l)[i * 3 + 2]? = some (.int .i64 x.f2)
  | [], i, x, h => by simp at h
  | y :: l, 0, x, h => by
    obtain rfl : y = x := by simpa using h
    simp [cellsOf_cons]
  | y :: l, i + 1, x, h => by
    have ih := cellsOf_get l i x (by simpa using h)
    rw [cellsOf_cons, show (i + 1) * 3 = i * 3 + 1 + 1 + 1 by omega]
    simp only [List.getElem?_cons_succ]
    exact ih
theorem cellsOf_one (l : List S43) : ∀ u ∈ cellsOf l, u.oneCell' = true := by
  intro u hu
  simp only [cellsOf, List.mem_flatMap, cells3] at hu
  obtain ⟨x, _, hx⟩ := hu
  simp only [List.mem_cons, List.not_mem_nil, or_false] at hx
  rcases hx with rfl | rfl | rfl <;> rfl

theorem add_plain' (g k j : Nat) : (⟨g, k, none⟩ : Addr).add j = ⟨g, k + j, none⟩ := by unfold Addr.add; split <;> simp_all
theorem k43_sz : k43.sz = 3 := rfl
theorem reps_cells (w : World) (base : Nat) (ok : Nat → Prop) : ∀ l : List S43, Reps (k43.M w base ok) 3 l (cellsOf l) := by
  intro l
  refine ⟨cellsOf_length l, fun j p hj => ?_⟩
  rw [← cellsOf_drop, show ((3 : Nat)) = 1 * 3 from rfl, ← cellsOf_take]
  have hlt : j < l.length := (List.getElem?_eq_some_iff.1 hj).1
  have e : (l.drop j).take 1 = [p] := by
    rw [List.drop_eq_getElem_cons hlt]
    have := (List.getElem?_eq_some_iff.1 hj).2
    simp [this]
  rw [e]
  exact k43_mkM w base ok p
theorem cells_reps {w : World} {base : Nat} {ok : Nat → Prop} : ∀ {l : List S43} {cs : List Value}, Reps (k43.M w base ok) 3 l cs → cs = cellsOf l := by
  intro l
  induction l with
  | nil =>
    intro cs h
    have := h.1
    simp at this
    rw [this]; rfl
  | cons x l ih =>
    intro cs h
    have h0 := k43_openM (h.2 0 x rfl)
    simp only [Nat.zero_mul, List.drop_zero] at h0
    have hl := h.1
    simp only [List.length_cons] at hl
    have h1 : Reps (k43.M w base ok) 3 l (cs.drop 3) := by
      refine ⟨by rw [List.length_drop]; omega, fun j p hj => ?_⟩
      have := h.2 (j + 1) p (by simpa using hj)
      rw [List.drop_drop, show 3 + j * 3 = (j + 1) * 3 by omega]
      exact this
    rw [cellsOf_cons, ← ih h1]
    have e : cs = cs.take 3 ++ cs.drop 3 := (List.take_append_drop 3 cs).symm
    rw [h0] at e
    exact e
theorem own_of_R {w : World} {base : Nat} {ok : Nat → Prop} {v : Value} {l : List S43} (h : Kd.R k43 43 w base ok v l) : w.ownsRow base 43 3 v l.length (cellsOf l) := by
  obtain ⟨_, inner, ho, hr⟩ := h
  rw [← cells_reps hr]
  exact ho
theorem R_of_own {w : World} {base : Nat} {v : Value} {l : List S43} (h : w.ownsRow base 43 3 v l.length (cellsOf l)) : Kd.R k43 43 w base (fun _ => True) v l :=
  ⟨fun _ _ => trivial, cellsOf l, h, reps_cells _ _ _ l⟩
/-- A file's own row: a block of cells. -/
theorem R_block {w : World} {base : Nat} {ok : Nat → Prop} {A : Option Addr} {n c : Nat} {l : List S43} (h : Kd.R k43 43 w base ok (.slice A n c) l) (hne : 0 < l.length) :
    ∃ g cur, A = some ⟨g, 0, none⟩ ∧ n = l.length ∧ base ≤ g ∧ w.heap[g]? = some (.cells cur 43 (0, 0)) ∧ l.length ≤ c ∧ c ≤ maxLen ∧ cur.size = c * 3 ∧ cur.toList.take (l.length * 3) = cellsOf l := by
  obtain ⟨_, h2 | ⟨g, cap, cur, he, hb, hh, h3, h4, h5, h6⟩⟩ := own_of_R h
  · omega
  · injection he with e1 e2 e3
    subst e1 e2 e3
    exact ⟨g, cur, rfl, rfl, hb, hh, h3, h4, h5, h6⟩
theorem R_cell {w : World} {g : Nat} {cur : Array Value} {l : List S43} {j : Nat} {u : Value} (hh : w.heap[g]? = some (.cells cur 43 (0, 0))) (h6 : cur.toList.take (l.length * 3) = cellsOf l) (hj : (cellsOf l)[j]? = some u) :
    w.cell? ⟨g, j, none⟩ = some u := by
  have hlt : j < l.length * 3 := by
    have := (List.getElem?_eq_some_iff.1 hj).1
    rwa [cellsOf_length] at this
  rw [blk_cell hh]
  rw [← h6, List.getElem?_take_of_lt hlt] at hj
  rw [← hj]
  simp
/-- One cell of the row is stored anew. -/
theorem R_put {w : World} {base g c j : Nat} {l l' : List S43} {u : Value} (h : Kd.R k43 43 w base (fun _ => True) (.slice (some ⟨g, 0, none⟩) l.length c) l) (hl : l'.length = l.length) (he : (cellsOf l).set j u = cellsOf l') (hj : j < l.length * 3) :
    Kd.R k43 43 (w.setCell ⟨g, j, none⟩ u) base (fun _ => True) (.slice (some ⟨g, 0, none⟩) l'.length c) l' := by
  obtain ⟨g', cur, hg, _, hb, hh, h3, h4, h5, h6⟩ := R_block h (by omega)
  injection hg with hg
  injection hg with hg
  subst hg
  refine R_of_own ⟨by rw [cellsOf_length], .inr ⟨g, c, cur.setIfInBounds j u, rfl, hb, blk_set hh j u, by omega, h4, by simpa using h5, ?_⟩⟩
  rw [← he, ← h6, hl]
  simp [List.take_set]

theorem there_any (i : Int) (b : Bool) (w : World) : Calls Try.prog 49 #[.int .i64 i, .bool b] w fun e w' => e = .returned (.int .i64 (if b = true then 0 else 7)) ∧ w = w' := by
  cases b
  · go_enter Try.func49, Try.ntmps49
    go_wp2
    go_ret
    exact ⟨rfl, rfl⟩
  · go_enter Try.func49, Try.ntmps49
    go_wp2
    go_ret
    exact ⟨rfl, rfl⟩
theorem enters49 : Enters 49 := fun args w => enters_ Try.func49 (by kernel_rfl) (by kernel_rfl) args w
end Go.Proofs.Ytanonhipicoigaa.T
