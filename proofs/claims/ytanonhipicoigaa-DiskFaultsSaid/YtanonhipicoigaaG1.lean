import Derived.Test.YtanonhipicoigaaTx0
import Derived.WalkLawsBesides
import Derived.Outline
namespace Go.Proofs.Ytanonhipicoigaa.T
open Go.RowKit Go.Proofs.YtanonhipicoigaaW.PrintWords Go.Proofs.YtanonhipicoigaaW.PrintLast Go.Proofs.YtanonhipicoigaaW.PrintMore
set_option linter.unusedVariables false
set_option linter.unusedSimpArgs false

/-- How two texts stand to each other, by bytes. -/
def cmpS (x y : ByteArray) : Int := if Op.bytesLess x.toList y.toList = true then -1 else if x.toList = y.toList then 0 else 1

theorem compare_any (x y : ByteArray) (w : World) :
    Calls Try.prog 47 #[.string x, .string y] w fun e w' => e = .returned (.int .i64 (cmpS x y)) ∧ w = w' := by
  by_cases h1 : Op.bytesLess x.toList y.toList = true
  · go_enter Try.func47, Try.ntmps47
    go_wp2
    go_ret
    exact ⟨by simp [cmpS, h1], rfl⟩
  · have h1' : Op.bytesLess x.toList y.toList = false := by simpa using h1
    by_cases h2 : x.toList = y.toList
    · have h3 : (!x.toList == y.toList) = false := by simp [h2]
      have e : cmpS x y = 0 := by unfold cmpS; rw [if_neg h1, if_pos h2]
      rw [e]
      clear h1 h2 e
      go_enter Try.func47, Try.ntmps47
      go_wp2
      go_ret
      exact ⟨rfl, rfl⟩
    · have h3 : (!x.toList == y.toList) = true := by simp [h2]
      have e : cmpS x y = 1 := by simp [cmpS, h1', h2]
      rw [e]
      clear h1 h2 e
      go_enter Try.func47, Try.ntmps47
      go_wp2
      go_ret
      exact ⟨rfl, rfl⟩

/-- What disk.place hands to the search. -/
theorem place1_any (x : S43) (y : ByteArray) (w : World) :
    Calls Try.prog 46 #[.agg #[.string x.f0, .string x.f1, .int .i64 x.f2], .string y] w fun e w' => e = .returned (.int .i64 (cmpS x.f0 y)) ∧ Below w.heap.size w w' := by
  go_enter Try.func46, Try.ntmps46
  go_wp2_with (go_at_call 47; refine (compare_any _ _ _).mono ?_; rintro e w' ⟨rfl, rfl⟩)
  go_ret
  exact ⟨rfl, (Below.refl _ _).alloc (Nat.le_refl _) _⟩

/-- Where a text stands, or would stand, among rising ones: as Go's search goes. -/
def bsGo (l : List S43) (s : ByteArray) : Nat → Nat → Nat → Nat
  | 0, i, _ => i
  | f + 1, i, j => if i < j then (if cmpS (rd_T43 l (((i + j) / 2 : Nat) : Int)).f0 s < 0 then bsGo l s f ((i + j) / 2 + 1) j else bsGo l s f i ((i + j) / 2)) else i

theorem bsGo_le (l : List S43) (s : ByteArray) : ∀ (f i j : Nat), i ≤ j → i ≤ bsGo l s f i j ∧ bsGo l s f i j ≤ j
  | 0, i, j, h => ⟨Nat.le_refl _, h⟩
  | f + 1, i, j, h => by
    unfold bsGo
    split
    · split
      · have := bsGo_le l s f ((i + j) / 2 + 1) j (by omega); omega
      · have := bsGo_le l s f i ((i + j) / 2) (by omega); omega
    · omega

def bsOf (l : List S43) (s : ByteArray) : Nat := bsGo l s l.length 0 l.length
def isAt (l : List S43) (s : ByteArray) (i : Nat) : Bool := decide (i < l.length) && (cmpS (rd_T43 l (i : Int)).f0 s == 0)

theorem cmpS_range (x y : ByteArray) : -1 ≤ cmpS x y ∧ cmpS x y ≤ 1 := by
  unfold cmpS
  split
  · omega
  · split <;> omega

set_option maxHeartbeats 1600000 in
set_option maxRecDepth 100000 in
theorem search_any (A : Option Addr) (c : Nat) (l : List S43) (s : ByteArray) (w : World) (hr : Kd.C k43 w A l.length l) (hn : l.length ≤ 64) :
    Calls Try.prog 45 #[.slice A l.length c, .string s, .func (.func 46) #[] #[]] w fun e w' => e = .returned (.tuple #[.int .i64 (bsOf l s), .bool (isAt l s (bsOf l s))]) ∧ Below w.heap.size w w' := by
  have HR := Aside0.mk hr
  clear hr
  go_enter Try.func45, Try.ntmps45
  go_wp2
  go_loopw [9, 10] (fun vi vj wr => ∃ i j f : Nat, vi = .int .i64 i ∧ vj = .int .i64 j ∧ i ≤ j ∧ j ≤ l.length ∧ j ≤ i + f ∧ Aside0 (bsGo l s f i j = bsOf l s) ∧ Aside0 (Below w.heap.size w wr))
    (fun vi vj _ => (intOf vj).toNat - (intOf vi).toNat)
  case atStart => exact ⟨0, l.length, l.length, rfl, rfl, by omega, by omega, by omega, ⟨rfl⟩, ⟨Below.refl _ _⟩⟩
  case round =>
    obtain ⟨i, j, f, rfl, rfl, hij, hjn, hjf, HG, HB⟩ := hrel
    by_cases hlt : i < j
    · have hr1 := Kd.C_below HR.out HB.out
      obtain ⟨ad, rfl, hc0, hc1, hc2⟩ := at_T43 hr1 (((i + j) / 2 : Nat) : Int) (by omega) (by omega)
      clear hr1
      simp only [Int.toNat_natCast] at hc0 hc1 hc2
      have hrg := cmpS_range (rd_T43 l (((i + j) / 2 : Nat) : Int)).f0 s
      obtain ⟨x, hx⟩ : ∃ x, x = rd_T43 l (((i + j) / 2 : Nat) : Int) := ⟨_, rfl⟩
      rw [← hx] at hc0 hc1 hc2 hrg
      have HX := Aside0.mk hx
      clear hx
      by_cases hcm : cmpS x.f0 s < 0
      · go_wp2_with (go_at_call 46; refine (place1_any x s _).mono ?_; rintro e w' ⟨rfl, hb⟩)
        refine ⟨⟨(i + j) / 2 + 1, j, f - 1, by congr 1, rfl, by omega, hjn, by omega, ⟨?_⟩, ⟨below_step HB.out hb⟩⟩, by simp [intOf]; omega⟩
        have h := HG.out
        obtain ⟨f, rfl⟩ : ∃ f', f = f' + 1 := ⟨f - 1, by omega⟩
        rw [← h, bsGo, if_pos hlt, if_pos (by rw [← HX.out]; exact hcm)]
        rfl
      · have hcm2 : decide (cmpS x.f0 s < 0) = false := by simpa using hcm
        go_wp2_with (go_at_call 46; refine (place1_any x s _).mono ?_; rintro e w' ⟨rfl, hb⟩)
        refine ⟨⟨i, (i + j) / 2, f - 1, rfl, by congr 1, by omega, by omega, by omega, ⟨?_⟩, ⟨below_step HB.out hb⟩⟩, by simp [intOf]; omega⟩
        have h := HG.out
        obtain ⟨f, rfl⟩ : ∃ f', f = f' + 1 := ⟨f - 1, by omega⟩
        rw [← h, bsGo, if_pos hlt, if_neg (by rw [← HX.out]; omega)]
        rfl
    · have hij2 : i = j := by omega
      subst hij2
      have HI : Aside0 (i = bsOf l s) := by
        have h := HG.out
        refine ⟨?_⟩
        rw [← h]
        cases f <;> simp [bsGo]
      by_cases hin : i < l.length
      · have hr1 := Kd.C_below HR.out HB.out
        obtain ⟨ad, rfl, hc0, hc1, hc2⟩ := at_T43 hr1 (i : Int) (by omega) (by omega)
        clear hr1
        simp only [Int.toNat_natCast] at hc0 hc1 hc2
        obtain ⟨x, hx⟩ : ∃ x, x = rd_T43 l (i : Int) := ⟨_, rfl⟩
        rw [← hx] at hc0 hc1 hc2
        have HX := Aside0.mk hx
        clear hx
        go_wp2_with (go_at_call 46; refine (place1_any x s _).mono ?_; rintro e w' ⟨rfl, hb⟩)
        go_ret2
        refine ⟨?_, below_step HB.out hb⟩
        rw [← HI.out]
        have e1 : isAt l s i = (cmpS x.f0 s == 0) := by unfold isAt; rw [← HX.out]; simp [hin]
        rw [e1]
        rfl
      · have e1 : isAt l s i = false := by unfold isAt; simp [hin]
        go_wp2
        go_ret2
        refine ⟨?_, HB.out⟩
        rw [← HI.out, e1]
        rfl

/-- The place of a name among files. -/
def disk_place.f (l0_0 : List (S43)) (a0_1 : Bool) (a0_2 : Int) (a0_3 : Int) (a1 : ByteArray) : Option (Int × Bool) := if l0_0.length ≤ 64 then some ((bsOf l0_0 a1 : Int), isAt l0_0 a1 (bsOf l0_0 a1)) else none
theorem disk_place.calls (A0_0 : Option Addr) (c0_0 : Nat) (l0_0 : List (S43)) (a0_1 : Bool) (a0_2 : Int) (a0_3 : Int) (a1 : ByteArray) (r1 : Int) (r2 : Bool) (w : World) (hr0_0 : Kd.C k43 w A0_0 l0_0.length l0_0) (hc0_0 : l0_0.length ≤ c0_0) (h : disk_place.f l0_0 a0_1 a0_2 a0_3 a1 = some (r1, r2)) :
    Calls Try.prog 31 #[.agg #[.slice A0_0 l0_0.length c0_0, .bool a0_1, .int .i64 a0_2, .int .i64 a0_3], .string a1] w fun e w' => e = .returned (.tuple #[.int .i64 r1, .bool r2]) ∧ Below w.heap.size w w' := by
  unfold disk_place.f at h
  split at h
  case isFalse => cases h
  rename_i hn
  simp only [Option.some.injEq, Prod.mk.injEq] at h
  obtain ⟨rfl, rfl⟩ := h
  have HR := Aside0.mk hr0_0
  clear hr0_0
  go_enter Try.func31, Try.ntmps31
  go_wp2_with (go_at_call 45; (with_reducible refine (search_any A0_0 c0_0 l0_0 a1 _ (Kd.C_below HR.out ((Below.refl _ _).alloc (Nat.le_refl _) _)) hn).mono ?_); rintro e w' ⟨rfl, hb⟩)
  go_ret2
  exact ⟨rfl, below_step ((Below.refl _ _).alloc (Nat.le_refl _) _) hb⟩
end Go.Proofs.Ytanonhipicoigaa.T
