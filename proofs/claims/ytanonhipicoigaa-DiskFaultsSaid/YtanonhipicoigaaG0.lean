import Derived.Test.YtanonhipicoigaaTx0
import Derived.WalkLawsBesides
import Derived.Outline
namespace Go.Proofs.Ytanonhipicoigaa.T
open Go.RowKit Go.Proofs.YtanonhipicoigaaW.PrintWords Go.Proofs.YtanonhipicoigaaW.PrintLast Go.Proofs.YtanonhipicoigaaW.PrintMore
set_option linter.unusedVariables false
set_option linter.unusedSimpArgs false

theorem bl_irrefl : ∀ a : List UInt8, Op.bytesLess a a = false
  | [] => rfl
  | x :: r => by
    simp only [Op.bytesLess, Bool.or_eq_false_iff, Bool.and_eq_false_iff]
    exact ⟨by simp, .inr (bl_irrefl r)⟩

theorem bl_asymm : ∀ a b : List UInt8, Op.bytesLess a b = true → Op.bytesLess b a = false
  | a, [], h => by cases a <;> simp [Op.bytesLess] at h
  | [], y :: s, h => rfl
  | x :: r, y :: s, h => by
    simp only [Op.bytesLess, Bool.or_eq_true, Bool.and_eq_true, decide_eq_true_eq, beq_iff_eq] at h
    simp only [Op.bytesLess, Bool.or_eq_false_iff, Bool.and_eq_false_iff, decide_eq_false_iff_not]
    rcases h with h | ⟨rfl, h⟩
    · have hn : x.toNat < y.toNat := h
      refine ⟨fun hh => ?_, .inl ?_⟩
      · have : y.toNat < x.toNat := hh
        omega
      · simp only [beq_eq_false_iff_ne, ne_eq]
        rintro rfl
        omega
    · exact ⟨fun hh => by have : x.toNat < x.toNat := hh; omega, .inr (bl_asymm r s h)⟩

theorem bl_total : ∀ a b : List UInt8, Op.bytesLess a b = true ∨ a = b ∨ Op.bytesLess b a = true
  | [], [] => .inr (.inl rfl)
  | [], y :: s => .inl rfl
  | x :: r, [] => .inr (.inr rfl)
  | x :: r, y :: s => by
    simp only [Op.bytesLess, Bool.or_eq_true, Bool.and_eq_true, decide_eq_true_eq, beq_iff_eq, List.cons.injEq]
    rcases Nat.lt_trichotomy x.toNat y.toNat with h | h | h
    · exact .inl (.inl h)
    · have e : x = y := UInt8.toNat_inj.mp h
      subst e
      rcases bl_total r s with g | g | g
      · exact .inl (.inr ⟨rfl, g⟩)
      · exact .inr (.inl ⟨rfl, g⟩)
      · exact .inr (.inr (.inr ⟨rfl, g⟩))
    · exact .inr (.inr (.inl h))

theorem bl_trans : ∀ a b c : List UInt8, Op.bytesLess a b = true → Op.bytesLess b c = true → Op.bytesLess a c = true
  | a, b, [], h, k => by cases b <;> simp [Op.bytesLess] at k
  | [], b, z :: t, h, k => rfl
  | x :: r, [], z :: t, h, k => by simp [Op.bytesLess] at h
  | x :: r, y :: s, z :: t, h, k => by
    simp only [Op.bytesLess, Bool.or_eq_true, Bool.and_eq_true, decide_eq_true_eq, beq_iff_eq] at h k ⊢
    rcases h with h | ⟨rfl, h⟩
    · rcases k with k | ⟨rfl, k⟩
      · left
        have h' : x.toNat < y.toNat := h
        have k' : y.toNat < z.toNat := k
        show x.toNat < z.toNat
        omega
      · exact .inl h
    · rcases k with k | ⟨rfl, k⟩
      · exact .inl k
      · exact .inr ⟨rfl, bl_trans r s t h k⟩

theorem empty_list : (⟨#[]⟩ : ByteArray).toList = [] := by
  unfold ByteArray.toList
  rw [ByteArray.toList.loop]
  rfl

/-- A file that may stand behind a name. -/
def okFile (last : List UInt8) (f : S43) : Bool := Op.bytesLess last f.f0.toList && decide (f.f0.size ≤ 4096) && decide (f.f1.size ≤ 262144) && decide (0 ≤ f.f2) && decide (f.f2 ≤ (f.f1.size : Int))
def okFiles : List UInt8 → List S43 → Bool
  | _, [] => true
  | last, f :: r => okFile last f && okFiles f.f0.toList r
/-- The files of a disk that is right. -/
def rightF (l : List S43) : Bool := okFiles [] l && decide (l.length ≤ 64)

theorem drop_rd (l : List S43) (i : Nat) (h : i < l.length) : l.drop i = rd_T43 l (i : Int) :: l.drop (i + 1) := by
  rw [List.drop_eq_getElem_cons h]
  congr 1
  simp [rd_T43, List.getD, h]

def disk_Check.f (l0_0 : List (S43)) (a0_1 : Bool) (a0_2 : Int) (a0_3 : Int) : Option (Int) := some (if rightF l0_0 = true then 0 else 6)
set_option maxHeartbeats 1600000 in
set_option maxRecDepth 100000 in
theorem disk_Check.calls (A0_0 : Option Addr) (c0_0 : Nat) (l0_0 : List (S43)) (a0_1 : Bool) (a0_2 : Int) (a0_3 : Int) (r : Int) (w : World) (hr0_0 : Kd.C k43 w A0_0 l0_0.length l0_0) (hc0_0 : l0_0.length ≤ c0_0) (h : disk_Check.f l0_0 a0_1 a0_2 a0_3 = some r) :
    Calls Try.prog 15 #[.agg #[.slice A0_0 l0_0.length c0_0, .bool a0_1, .int .i64 a0_2, .int .i64 a0_3]] w fun e w' => e = .returned (.int .i64 r) ∧ Below w.heap.size w w' := by
  unfold disk_Check.f at h
  have HRR := Aside0.mk (Option.some.inj h).symm
  clear h
  have hlen : l0_0.length ≤ 9223372036854775807 := hr0_0.2.1
  have HR := Aside0.mk hr0_0
  clear hr0_0
  go_enter Try.func15, Try.ntmps15
  go_wp2
  go_loopw [3, 9] (fun vl vi wr => ∃ (i : Nat) (last : ByteArray), vl = .string last ∧ vi = .int .i64 i ∧ i ≤ l0_0.length ∧ Aside0 (okFiles last.toList (l0_0.drop i) = okFiles [] l0_0) ∧ Aside0 (wr.heap[w.heap.size]? = some (.cells #[.slice A0_0 l0_0.length c0_0, .bool a0_1, .int .i64 a0_2, .int .i64 a0_3] 24 (0, 0))) ∧ Aside0 (Below w.heap.size w wr))
    (fun vl vi _ => l0_0.length - (intOf vi).toNat)
  case atStart => exact ⟨0, _, rfl, rfl, Nat.zero_le _, ⟨by rw [List.drop_zero, empty_list]⟩, ⟨blk_new _ _⟩, ⟨(Below.refl _ _).alloc (Nat.le_refl _) _⟩⟩
  case round =>
    obtain ⟨i, last, rfl, rfl, hin, HG, HK, HB⟩ := hrel
    by_cases hlt : i < l0_0.length
    · have hr1 := Kd.C_below HR.out HB.out
      obtain ⟨ad, rfl, hc0, hc1, hc2⟩ := at_T43 hr1 (i : Int) (by omega) (by omega)
      clear hr1
      have HD := Aside0.mk (drop_rd l0_0 i hlt)
      simp only [Int.toNat_natCast] at hc0 hc1 hc2
      obtain ⟨x, hx⟩ : ∃ x, x = rd_T43 l0_0 (i : Int) := ⟨_, rfl⟩
      rw [← hx] at hc0 hc1 hc2 HD
      clear hx
      by_cases hok : okFile last.toList x = true
      · have hok2 := hok
        simp only [okFile, Bool.and_eq_true, decide_eq_true_eq] at hok2
        obtain ⟨⟨⟨⟨c1, c2⟩, c3⟩, c4⟩, c5⟩ := hok2
        have g1 : Op.bytesLess x.f0.toList last.toList = false := bl_asymm _ _ c1
        have g2 : (x.f0.toList == last.toList) = false := by
          simp only [beq_eq_false_iff_ne, ne_eq]
          intro e
          rw [e, bl_irrefl] at c1
          cases c1
        have c2' : (x.f0.size : Int) ≤ 4096 := by omega
        have c3' : (x.f1.size : Int) ≤ 262144 := by omega
        have HOK := Aside0.mk hok
        clear c1 hok c2 c3
        go_wp2
        refine ⟨⟨i + 1, x.f0, by simp, by congr 1, by omega, ⟨?_⟩, ⟨blk_alloc HK.out _⟩, ⟨below_alloc HB.out _⟩⟩, by simp [intOf]; omega⟩
        have h := HG.out
        rw [HD.out] at h
        simp only [okFiles, HOK.out, Bool.true_and] at h
        exact h
      · have HR6 : Aside0 (r = 6) := by
          refine ⟨?_⟩
          have h := HG.out
          rw [HD.out] at h
          have e : okFile last.toList x = false := by simpa using hok
          simp only [okFiles, e, Bool.false_and] at h
          rw [HRR.out, rightF, ← h]
          rfl
        by_cases c1 : Op.bytesLess last.toList x.f0.toList = true
        · have g1 : Op.bytesLess x.f0.toList last.toList = false := bl_asymm _ _ c1
          have g2 : (x.f0.toList == last.toList) = false := by
            simp only [beq_eq_false_iff_ne, ne_eq]
            intro e
            rw [e, bl_irrefl] at c1
            cases c1
          have hbad : Aside0 (¬ ((x.f0.size : Int) ≤ 4096 ∧ (x.f1.size : Int) ≤ 262144 ∧ 0 ≤ x.f2 ∧ x.f2 ≤ (x.f1.size : Int))) := by
            refine ⟨fun hh => hok ?_⟩
            simp only [okFile, Bool.and_eq_true, decide_eq_true_eq]
            exact ⟨⟨⟨⟨c1, by omega⟩, by omega⟩, hh.2.2.1⟩, hh.2.2.2⟩
          clear c1 hok
          go_wp2
          all_goals first
            | (go_ret; exact ⟨by rw [HR6.out]; rfl, below_alloc HB.out _⟩)
            | (have := hbad.out; exfalso; omega)
        · have g0 : (Op.bytesLess x.f0.toList last.toList || x.f0.toList == last.toList) = true := by
            rcases bl_total last.toList x.f0.toList with g | g | g
            · exact absurd g c1
            · simp [g]
            · simp [g]
          clear c1 hok
          go_wp2
          all_goals first
            | (go_ret; exact ⟨by rw [HR6.out]; rfl, below_alloc HB.out _⟩)
    · have hcz0 : wr.cell? ⟨w.heap.size, 0, none⟩ = some (.slice A0_0 l0_0.length c0_0) := (blk_cell HK.out 0).trans rfl
      have hi : i = l0_0.length := by omega
      subst hi
      have HOK : Aside0 (okFiles [] l0_0 = true) := ⟨by have h := HG.out; rw [List.drop_length] at h; exact h.symm⟩
      by_cases hn : l0_0.length ≤ 64
      · have HR0 : Aside0 (r = 0) := ⟨by rw [HRR.out, rightF, HOK.out]; simp [hn]⟩
        go_wp2
        go_ret
        exact ⟨by rw [HR0.out]; rfl, HB.out⟩
      · have HR0 : Aside0 (r = 6) := ⟨by rw [HRR.out, rightF, HOK.out]; simp [hn]⟩
        go_wp2
        go_ret
        exact ⟨by rw [HR0.out]; rfl, HB.out⟩
end Go.Proofs.Ytanonhipicoigaa.T
