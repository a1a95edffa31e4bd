import Derived.Test.YtanonhipicoigaaGreatDoorZRai
import Derived.Maps.Own
import Derived.Maps.OwnOps
import Derived.Maps.OwnSet
import Derived.Maps.Views
import Derived.Maps.Keyed
import Derived.Carry
import Derived.Test.YtanonhipicoigaaGreatDoorZRar
import Derived.Test.YtanonhipicoigaaGreatDoorZRag
set_option linter.unusedVariables false
set_option linter.unusedSimpArgs false
set_option maxRecDepth 100000
namespace Go.Proofs.U
open Go.RowKit Go.Proofs.aA.aK Go.Proofs.aA.aW Go.Proofs.aA.aX
attribute [local go_sem] iD iG jB jJ gU gV iP iQ
mutual
def dI.j0 : Nat → ByteArray → Bool → Option (Int × Bool)
 | 0, _, _ => none
 | k + 1, x0, x13 => if x13 = true then (some (0, false)) else (dI.l0 k x0 0 8)
def dI.l0 : Nat → ByteArray → Int → Int → Option (Int × Bool)
 | 0, _, _, _ => none
 | k + 1, x0, x4, x5 => if x5 > 0 then (if 0 ≤ x5 then (if x5 < (x0.size : Int) then (dI.l0 k x0 (Go.bits .or .u64 (IntKind.u64.wrap (x4 * 256)) (IntKind.u64.wrap (bt x0 x5))) (wrap64 (x5 - 1))) else (none)) else (none)) else (some (x4, true))
end
def dI.f (k : Nat) (a0 : ByteArray) : Option (Int × Bool) := if (a0.size : Int) = 9 then (if 0 < (a0.size : Int) then (dI.j0 k a0 ((bt a0 0) != 65)) else (none)) else (dI.j0 k a0 true)
set_option maxHeartbeats 8000000 in
theorem dI.calls (k : Nat) (a0 : ByteArray) (r1 : Int) (r2 : Bool) (w : World) (h : dI.f k a0 = some (r1, r2)) :
    Calls Tryz.prog 98 #[.string a0] w fun e w' => e = .returned (.tuple #[.int .u64 r1, .bool r2]) ∧ eY w w' := by
  have H : (if (a0.size : Int) = 9 then (if 0 < (a0.size : Int) then (dI.j0 k a0 ((bt a0 0) != 65)) else (none)) else (dI.j0 k a0 true)) = some (r1, r2) := h
  clear h
  have HC2 := aC.mk H
  clear H
  go_enter Tryz.func98, Tryz.ntmps98
  go_upto_region 1 with (fail)
  go_cut [13] (fun v13 wc => ∃ (kq : Nat) (fP : Bool), v13 = .bool fP ∧ aC (dI.j0 kq a0 fP = some (r1, r2)) ∧ aC (kq ≤ k) ∧ eY w wc)
  case first =>
    have H := HC2.out
    clear HC2
    by_cases c3 : (a0.size : Int) = 9
    · rw [if_pos c3] at H
      have F6 : ((a0.size : Int) == 9) = true := beq_iff_eq.mpr c3
      have Q7 : ((a0.size : Int) != 9) = false := bne_eq_false_iff_eq.mpr c3
      clear c3
      (first | rw [F6] | (simp only [aI, aJ]; rw [F6]) | skip)
      by_cases c4 : 0 < (a0.size : Int)
      · rw [if_pos c4] at H
        have ZO : decide (0 < (a0.size : Int)) = true := decide_eq_true c4
        have qeG : decide (0 < a0.size) = true := decide_eq_true (by omega)
        clear c4
        have H' := aC.mk H
        clear H
        have p5 : 0 ≤ (0 : Int) := (by omega)
        have q5 : 0 < a0.size := (by have : (0 : Int) < (a0.size : Int) := of_decide_eq_true (by first | (with_reducible assumption) | assumption); omega)
        have hx5 : ∀ h : 0 < a0.size, ((a0[0]'h).toNat : Int) = bt a0 0 := VN a0 0
        clear p5
        have qi5 : (0 < (a0.size : Int)) = True := eq_true (of_decide_eq_true (by first | (with_reducible assumption) | assumption))
        replace q5 := eq_true q5
        go_wp2
        go_meet
        case rel => exact ⟨_, (((bt a0 0) != 65)), (by first | rfl | (simp; done) | (simp [*]; done)), H', ⟨by first | omega | exact Nat.le_refl _⟩, by repeat (first | exact eY.refl _ | apply eY.step)⟩
      · rw [if_neg c4] at H
        exact absurd H (by simp)
    · rw [if_neg c3] at H
      have F6 : ((a0.size : Int) == 9) = false := beq_eq_false_iff_ne.mpr c3
      have Q7 : ((a0.size : Int) != 9) = true := bne_iff_ne.mpr c3
      (first | rw [F6] | (simp only [aI, aJ]; rw [F6]) | skip)
      have H' := aC.mk H
      clear H
      go_wp2
      go_meet
      case rel => exact ⟨_, (true), (by first | rfl | (simp; done) | (simp [*]; done)), H', ⟨by first | omega | exact Nat.le_refl _⟩, by repeat (first | exact eY.refl _ | apply eY.step)⟩
  case rest =>
    clear HC2
    try clear p2
    try clear c3
    try clear F6
    try clear Q7
    try clear c4
    try clear ZO
    try clear qeG
    try clear p5
    try clear q5
    try clear hx5
    try clear qi5
    try clear p5
    try clear q5
    obtain ⟨kq, fP, rfl, HA, HJ1, ⟨mc1, rfl⟩⟩ := hcut
    cases kq with
    | zero => exact absurd HA.out (by simp [dI.j0])
    | succ kj1 =>
      have H := HA.out
      clear HA
      simp only [dI.j0] at H
      by_cases c6 : fP = true
      · subst c6
        have H1 : (some (0, false)) = some (r1, r2) := by rw [if_pos rfl] at H; exact H
        clear H
        have H := H1
        clear H1
        simp only [Option.some.injEq, Prod.mk.injEq] at H
        obtain ⟨rfl, rfl⟩ := H
        go_wp2
        go_ret2
        exact ⟨by first | rfl | (simp; done) | (simp [*]; done), by repeat (first | exact eY.refl _ | apply eY.step)⟩
      · replace c6 := Bool.eq_false_iff.mpr c6
        subst c6
        have H1 : (dI.l0 kj1 a0 0 8) = some (r1, r2) := by rw [if_neg (show ¬ (false = true) by decide)] at H; exact H
        clear H
        have H := H1
        clear H1
        have H' := aC.mk H
        clear H
        go_wp2
        go_loopg [4, 5] kj1 (fun kq v4 v5 w' => ∃ (F7 : Int) (BG : Int), v4 = .int .u64 F7 ∧ v5 = .int .i64 BG ∧ aC (dI.l0 kq a0 F7 BG = some (r1, r2)) ∧ aC (kq ≤ kj1) ∧ eY w w')
        case atStart => exact ⟨(0), (8), (by first | rfl | (simp; done) | (simp [*]; done)), (by first | rfl | (simp; done) | (simp [*]; done)), H', ⟨Nat.le_refl _⟩, by repeat (first | exact eY.refl _ | apply eY.step)⟩
        case round =>
          clear H'
          try clear c1
          try clear p2
          try clear c3
          try clear F6
          try clear Q7
          try clear c4
          try clear ZO
          try clear qeG
          try clear p5
          try clear q5
          try clear hx5
          try clear qi5
          try clear c6
          try clear p2
          try clear p5
          try clear q5
          obtain ⟨F7, BG, rfl, rfl, HA, HK2, ⟨m2, rfl⟩⟩ := hrel
          cases gk with
          | zero => exact absurd HA.out (by simp [dI.l0])
          | succ k2 =>
            have H := HA.out
            clear HA
            simp only [dI.l0] at H
            by_cases c7 : BG > 0
            · rw [if_pos c7] at H
              have qeH : decide (0 < BG) = true := decide_eq_true c7
              clear c7
              by_cases c8 : 0 ≤ BG
              · rw [if_pos c8] at H
                have qeI : decide (0 ≤ BG) = true := decide_eq_true c8
                clear c8
                by_cases c9 : BG < (a0.size : Int)
                · rw [if_pos c9] at H
                  have qeu : decide (BG < (a0.size : Int)) = true := decide_eq_true c9
                  clear c9
                  have H' := aC.mk H
                  clear H
                  have p10 : 0 ≤ (BG : Int) := of_decide_eq_true (by first | (with_reducible assumption) | assumption)
                  have q10 : BG < (a0.size : Int) := of_decide_eq_true (by first | (with_reducible assumption) | assumption)
                  have qiG := VN a0 BG
                  replace p10 := eq_true p10
                  replace q10 := eq_true q10
                  go_wp2
                  go_roundg k2
                  case measure => have := HJ1.out; have := HK2.out; omega
                  case rel => exact ⟨(Go.bits .or .u64 (IntKind.u64.wrap (F7 * 256)) (IntKind.u64.wrap (bt a0 BG))), (wrap64 (BG - 1)), (by first | rfl | (simp; done) | (simp [*]; done)), (by first | rfl | (simp; done) | (simp [*]; done)), H', ⟨by have := HJ1.out; have := HK2.out; omega⟩, by repeat (first | exact eY.refl _ | apply eY.step)⟩
                · rw [if_neg c9] at H
                  exact absurd H (by simp)
              · rw [if_neg c8] at H
                exact absurd H (by simp)
            · rw [if_neg c7] at H
              have qeH : decide (0 < BG) = false := decide_eq_false c7
              clear c7
              simp only [Option.some.injEq, Prod.mk.injEq] at H
              obtain ⟨rfl, rfl⟩ := H
              go_wp2
              go_ret2
              exact ⟨by first | rfl | (simp; done) | (simp [*]; done), by repeat (first | exact eY.refl _ | apply eY.step)⟩
end Go.Proofs.U
namespace Go.Proofs.U
open Go.Proofs.UE (kU rQ)
open Go.Proofs
open Go.RowKit Go.Proofs.aA.aK Go.Proofs.aA.aW Go.Proofs.aA.aX Go.Proofs.Sp Go.Proofs.gB
open Go.Maps
theorem ZW {n b : Int} (h0 : 0 ≤ n) (h1 : n < 72057594037927936) (b0 : 0 ≤ b) (b1 : b ≤ 255) : bits .or .u64 (n * 256) b = n * 256 + b := by
 have e : (n * 256) % 2 ^ 8 = 0 := by
  rw [show (2 : Int) ^ 8 = 256 from rfl]
  omega
 have h2 : (2 : Int) ^ 64 = 18446744073709551616 := rfl
 refine bits_join .u64 64 (by decide) (fun m hm0 hm1 => ?_) 8 (n * 256) b (by omega) e ?_ b0 ?_ ?_
 ·rw [h2] at hm1
  rw [IntKind.wrap_u64]
  omega
 ·rw [h2]; omega
 ·rw [show (2 : Int) ^ 8 = 256 from rfl]; omega
 ·rw [h2]; omega
def nvF (s : ByteArray) : Nat → Int
 | 0 => 0
 | k + 1 => nvF s k * 256 + bt s ((8 - k : Nat) : Int)
theorem EJ (s : ByteArray) : ∀ k, k ≤ 8 → 0 ≤ nvF s k ∧ nvF s k < ((256 ^ k : Nat) : Int)
 | 0, _ => ⟨Int.le_refl _, by show (0 : Int) < ((256 ^ 0 : Nat) : Int); decide⟩
 | k + 1, h => by
  obtain ⟨h1, h2⟩ := EJ s k (by omega)
  obtain ⟨h3, h4⟩ := tZ s ((8 - k : Nat) : Int)
  rw [nvF, Nat.pow_succ]
  exact ⟨by omega, by omega⟩
def pJ (s : ByteArray) : Option Int := if s.size = 9 ∧ bt s 0 = 65 then some (nvF s 8) else none
theorem RP {s : ByteArray} {n : Int} (h : pJ s = some n) : 0 ≤ n ∧ n < 18446744073709551616 := by
 unfold pJ at h
 split at h
 ·injection h with h
  obtain ⟨h1, h2⟩ := EJ s 8 (by omega)
  rw [h] at h1 h2
  exact ⟨h1, h2⟩
 ·cases h
theorem LZ (s : ByteArray) (hs : s.size = 9) : ∀ (f k : Nat), k ≤ 8 → 8 - k < f → dI.l0 f s (nvF s k) ((8 - k : Nat) : Int) = some (nvF s 8, true)
 | 0, k, h, hf => by omega
 | f + 1, k, h, hf => by
  rw [dI.l0]
  by_cases hk : k < 8
  ·obtain ⟨h1, h2⟩ := EJ s k h
   obtain ⟨h3, h4⟩ := tZ s ((8 - k : Nat) : Int)
   have h5 : 256 ^ k ≤ 72057594037927936 := Nat.le_trans (Nat.pow_le_pow_right (by decide) (by omega : k ≤ 7)) (by decide)
   have e1 : IntKind.u64.wrap (nvF s k * 256) = nvF s k * 256 := by rw [IntKind.wrap_u64]; omega
   have e2 : IntKind.u64.wrap (bt s ((8 - k : Nat) : Int)) = bt s ((8 - k : Nat) : Int) := by rw [IntKind.wrap_u64]; omega
   have e3 : wrap64 (((8 - k : Nat) : Int) - 1) = ((8 - (k + 1) : Nat) : Int) := by unfold wrap64; omega
   rw [if_pos (by omega), if_pos (by omega), if_pos (by omega), e1, e2, e3, ZW h1 (by omega) h3 h4]
   exact LZ s hs f (k + 1) (by omega) (by omega)
  ·obtain rfl : k = 8 := by omega
   rw [if_neg (by decide)]
theorem number_eq (s : ByteArray) : dI.f 12 s = some (match pJ s with | some n => (n, true) | none => (0, false)) := by
 rw [dI.f]
 by_cases h9 : s.size = 9
 ·rw [if_pos (by omega), if_pos (by omega), dI.j0]
  by_cases h0 : bt s 0 = 65
  ·rw [if_neg (by rw [h0]; decide), pJ, if_pos ⟨h9, h0⟩]
   exact LZ s h9 11 0 (by omega) (by omega)
  ·rw [if_pos (by rw [bne_iff_ne]; exact h0), pJ, if_neg (fun h => h0 h.2)]
 ·rw [if_neg (by omega), dI.j0, if_pos rfl, pJ, if_neg (fun h => h9 h.1)]
def qbu (s : ByteArray) : Prop := s ≠ ⟨#[]⟩ ∧ bt s 0 = 80
def kF (rs : List S62) (n : Int) : Nat := (rs.filter fun r => decide (pJ r.f1 = some n)).length
theorem qbw (rs : List S62) (n : Int) : kF rs n ≤ rs.length := List.length_filter_le _ _
theorem vV (r : S62) (rs : List S62) (n : Int) : kF (r :: rs) n = if pJ r.f1 = some n then kF rs n + 1 else kF rs n := by
 unfold kF
 rw [List.filter_cons]
 split
 ·rename_i h
  rw [if_pos (by simpa using h)]
  rfl
 ·rename_i h
  rw [if_neg (by simpa using h)]
open Classical in
noncomputable def dJ : List S62 → List S41
 | [] => []
 | r :: rest => if pJ r.f1 = none ∧ qbu r.f1 ∧ kF rest r.f0 = 0 then ⟨r.f0, r.f1.extract 1 r.f1.size, false⟩ :: dJ rest else dJ rest
theorem vW : ∀ rs, (dJ rs).length ≤ rs.length
 | [] => Nat.le_refl _
 | r :: rest => by
  have := vW rest
  rw [dJ]
  split
  ·simp only [List.length_cons]; omega
  ·simp only [List.length_cons]; omega
def EK (g n : Nat) (D : DataW Unit) : Res where
 holds W := W.ownsMap Tryz.prog 28 (plainElem Tryz.prog 3) g n D
 foot k := k = g
 lives h hr := by
  have hlt := hr.lt
  obtain ⟨es, clock, hb, F, hs, hD⟩ := hr
  exact ⟨es, clock, (h g rfl hlt).trans hb, F, hs, hD⟩
 lt h e := by rw [e]; exact h.lt
theorem wf64 {n : Int} (h0 : 0 ≤ n) (h1 : n < 18446744073709551616) : (Lit.int .u64 n).wf = true := by
 have : IntKind.u64.min ≤ n ∧ n ≤ IntKind.u64.max := ⟨h0, by show n ≤ 18446744073709551615; omega⟩
 simpa [Lit.wf] using this
theorem qdd {n : Int} (h0 : 0 ≤ n) (h1 : n < 18446744073709551616) : keyOf Tryz.prog 28 (.int .u64 n) = some (.int .u64 n) := keyOf_int_mk Tryz.underlying28 (wf64 h0 h1)
def L6 (D : DataW Unit) (c : Int → Nat) : Prop := ∀ n, 0 ≤ n → n < 18446744073709551616 → D.atKey (.int .u64 n) (.lit (.int .i64 0)) = .lit (.int .i64 (c n : Int))
theorem qbx {W : World} {g m : Nat} {D : DataW Unit} {c : Int → Nat} (h : W.ownsMap Tryz.prog 28 (plainElem Tryz.prog 3) g m D) (hD : L6 D c) {n : Int} (h0 : 0 ≤ n) (h1 : n < 18446744073709551616) :
  (Instr.lookup 150 (.map (some g)) (.int .u64 n) false).run Tryz.prog W = .ok (.int .i64 (c n : Int)) W := by
 obtain ⟨v, hrun, hat, _⟩ := h.lookup_int (t := 150) (e := 3) (q := .i64) (int_keyed Tryz.underlying28) Tryz.underlying150 Tryz.underlying3 (by kernel_rfl) (qdd h0 h1)
 rw [hD n h0 h1] at hat
 injection hat with hat
 injection hat with _ hat
 rw [hrun, hat]
theorem Sep.qdV {b W W1 : World} {rs : List Res} {g n : Nat} {D D' : DataW Unit} (H : Sep b W (EK g n D :: rs)) (h1 : W1.ownsMap Tryz.prog 28 (plainElem Tryz.prog 3) g (n + 1) D') (hg : W.grownBy W1 (some g)) : Sep b W1 (EK g (n + 1) D' :: rs) :=
 H.qbQ (r' := EK g (n + 1) D') ((Upd.wC hg).mono fun k hk => by injection hk with hk; exact hk.symm) h1 (fun k hk => .inl hk)
theorem qcJ {P : Program} {ops : Array Oper} {rest : List Oper} {o : Oper} {a : Act} {Q : Exit → Act → World → Prop} {b W : World} {rs : List Res} (hgd : o.guard = none) (H : aC (Sep b W rs))
  (hrun : (execOp a.eval o).run P W = .ok (.value (.map (some W.heap.size))) (W.alloc (.map #[] 0)))
  (h : ∀ g W', aC (Sep b W' (EK g 0 (.map []) :: rs)) → wpList P ops Q rest (a.put o.dst (.map (some g))) W') : wpList P ops Q (o :: rest) a W :=
 Kd.uF hgd hrun (h _ _ ⟨H.out.push (aQ (Below.refl _ _) _) (EK W.heap.size 0 (.map [])) (World.ownsMap_made W _ _ _) (fun g hg => by rw [show g = W.heap.size from hg]; exact Nat.le_refl _)⟩)
theorem ZX : L6 (.map []) (fun _ => 0) := fun n _ _ => rfl
theorem ZY (k : IntKind) (n : Int) : WideAt.IsKeyLit (.int k n) := by first | exact trivial | (unfold WideAt.IsKeyLit; trivial) | simp [WideAt.IsKeyLit]
theorem Z4 {D : DataW Unit} {c : Int → Nat} (hD : L6 D c) (hm : IsMap D) {n : Int} (h0 : 0 ≤ n) (h1 : n < 18446744073709551616) : L6 (D.put (.int .u64 n) (.lit (.int .i64 ((c n : Int) + 1)))) (fun m => if m = n then c n + 1 else c m) := by
 intro m g0 g1
 by_cases h : m = n
 ·subst h
  rw [Maps.atKey_put_same hm (ZY _ _)]
  simp
 ·rw [Maps.atKey_put_other (by intro e; injection e with _ e; exact h e), hD m g0 g1]
  simp [h]
theorem DJ : ∀ (l : List S41) (i : Nat) (x : S41) (u : Int), l[i]? = some x → (UE.cellsOf l).set (i * 3) (.int .u64 u) = UE.cellsOf (l.set i ⟨u, x.f1, x.f2⟩)
 | [], i, x, u, h => by simp at h
 | y :: l, 0, x, u, h => by
  obtain rfl : y = x := by simpa using h
  simp [UE.bZ]
 | y :: l, i + 1, x, u, h => by
  show _ = UE.cellsOf (y :: l.set i _)
  rw [UE.bZ, UE.bZ, ← DJ l i x u (by simpa using h), show (i + 1) * 3 = i * 3 + 1 + 1 + 1 by omega]
  simp only [zS]
theorem J9 {b W : World} {pre post : List Res} {g c n i : Nat} {l : List S41} {x : S41} (y : S41) (hn : n = l.length) (hx : l[i]? = some x) (H : Sep b W (pre ++ row k41 41 (.slice (some ⟨g, 0, none⟩) n c) l :: post)) :
  Sep b (((W.setCell ⟨g, i * 3, none⟩ (.int .u64 y.f0)).setCell ⟨g, i * 3 + 1, none⟩ (.string y.f1)).setCell ⟨g, i * 3 + 2, none⟩ (.bool y.f2)) (pre ++ row k41 41 (.slice (some ⟨g, 0, none⟩) n c) (l.set i y) :: post) := by
 have hi := (List.getElem?_eq_some_iff.1 hx).1
 have h1 := kU (l' := l.set i ⟨y.f0, x.f1, x.f2⟩) (j := i * 3) (u := .int .u64 y.f0) hn H (by simp) (DJ l i x y.f0 hx) (by omega)
 have h2 := kU (l' := (l.set i ⟨y.f0, x.f1, x.f2⟩).set i ⟨y.f0, y.f1, x.f2⟩) (j := i * 3 + 1) (u := .string y.f1) (by rw [hn]; simp) h1 (by simp) (UE.lS _ i ⟨y.f0, x.f1, x.f2⟩ y.f1 (by rw [List.getElem?_set_self hi])) (by simp; omega)
 have h3 := kU (l' := ((l.set i ⟨y.f0, x.f1, x.f2⟩).set i ⟨y.f0, y.f1, x.f2⟩).set i ⟨y.f0, y.f1, y.f2⟩) (j := i * 3 + 2) (u := .bool y.f2) (by rw [hn]; simp) h2 (by simp) (UE.jS _ i ⟨y.f0, y.f1, x.f2⟩ y.f2 (by rw [List.getElem?_set_self (by rw [List.length_set]; exact hi)])) (by simp; omega)
 rw [List.set_set, List.set_set] at h3
 exact h3
structure Z5 (l : List S41) (i : Nat) (cur : List S41) : Prop where
 len : cur.length = l.length
 low : 2 * i ≤ l.length + 1
 old : ∀ k, k < i → cur[k]? = l[l.length - 1 - k]? ∧ cur[l.length - 1 - k]? = l[k]?
 new : ∀ k, i ≤ k → k + i < l.length → cur[k]? = l[k]?
theorem Z5.step {l cur : List S41} {i : Nat} {x y : S41} (h : Z5 l i cur) (hi : 2 * i + 1 < l.length) (hx : cur[i]? = some x) (hy : cur[l.length - 1 - i]? = some y) : Z5 l (i + 1) ((cur.set i y).set (l.length - 1 - i) x) := by
 have hxl := h.new i (Nat.le_refl _) (by omega)
 have hyl := h.new (l.length - 1 - i) (by omega) (by omega)
 have ha : i < cur.length := by rw [h.len]; omega
 have hb : l.length - 1 - i < cur.length := by rw [h.len]; omega
 refine ⟨by simp [h.len], by omega, fun k hk => ?_, fun k hk hk2 => ?_⟩
 ·by_cases hki : k = i
  ·subst hki
   constructor
   ·rw [List.getElem?_set_ne (by omega), List.getElem?_set_self ha, ← hyl, hy]
   ·rw [List.getElem?_set_self (by rw [List.length_set]; exact hb), ← hxl, hx]
  ·obtain ⟨g1, g2⟩ := h.old k (by omega)
   rw [List.getElem?_set_ne (by omega), List.getElem?_set_ne (by omega), List.getElem?_set_ne (by omega), List.getElem?_set_ne (by omega)]
   exact ⟨g1, g2⟩
 ·rw [List.getElem?_set_ne (by omega), List.getElem?_set_ne (by omega)]
  exact h.new k (by omega) (by omega)
theorem Z5.done {l cur : List S41} {i : Nat} (h : Z5 l i cur) (hi : ¬ 2 * i + 1 < l.length) : cur = l.reverse := by
  apply List.ext_getElem?
  intro k
  by_cases hk : k < l.length
  · rw [List.getElem?_reverse hk]
    by_cases h3 : k < i
    · exact (h.old k h3).1
    · by_cases h4 : l.length - 1 - k < i
      · have := (h.old (l.length - 1 - k) h4).2
        rw [show l.length - 1 - (l.length - 1 - k) = k by omega] at this
        exact this
      · have := h.new k (by omega) (by omega)
        have hl := h.low
        rw [this]
        congr 1
        omega
  · rw [List.getElem?_eq_none (by rw [h.len]; omega), List.getElem?_eq_none (by rw [List.length_reverse]; omega)]
set_option maxHeartbeats 8000000 in
theorem RQ {b w : World} {rs : List Res} (B : Option Addr) (d : Nat) (l : List S41) (hl : l.length ≤ 1000000000) (H0 : aC (Sep b w (rG B d l :: rs))) :
  Calls Tryz.prog 99 #[.slice B l.length d] w fun e w' => e = .returned (.tuple #[]) ∧ aC (Sep b w' (row k41 41 (.slice B l.length d) l.reverse :: rs)) := by
 have HL := aC.mk hl
 have H := H0
 clear H0 hl
 have hw1 : wrap64 ((l.length : Int) - 1) = (l.length : Int) - 1 - ((0 : Nat) : Int) := by
  have := HL.out
  unfold wrap64
  omega
 go_enter Tryz.func99, Tryz.ntmps99
 go_wp2
 try rw [hw1]
 go_loopw [2, 3] (fun v2 v3 wr => ∃ (i : Nat) (cur : List S41), v2 = .int .i64 (i : Int) ∧ v3 = .int .i64 ((l.length : Int) - 1 - (i : Int)) ∧ aC (Z5 l i cur) ∧ aC (Sep b wr (row k41 41 (.slice B l.length d) cur :: rs))) (fun v2 _ _ => (l.length + 1 - 2 * (intOf v2).toNat))
 case atStart => exact ⟨0, l, rfl, rfl, ⟨⟨rfl, by omega, fun k hk => by omega, fun k _ _ => rfl⟩⟩, H⟩
 case round =>
  clear H
  obtain ⟨i, cur, rfl, rfl, HI, H⟩ := hrel
  by_cases hi : 2 * i + 1 < l.length
  ·obtain ⟨j, hj⟩ : ∃ j, j = l.length - 1 - i := ⟨_, rfl⟩
   have hji : (l.length : Int) - 1 - (i : Int) = (j : Int) := by omega
   rw [hji]
   have hcl := HI.out.len
   obtain ⟨x, hx⟩ : ∃ x, cur[i]? = some x := ⟨_, List.getElem?_eq_getElem (by omega)⟩
   obtain ⟨y, hy⟩ : ∃ y, cur[j]? = some y := ⟨_, List.getElem?_eq_getElem (by omega)⟩
   have HX := aC.mk hx
   have HY := aC.mk hy
   have HJ := aC.mk hj
   have HCL := aC.mk hcl
   have HII := aC.mk hi
   obtain ⟨gp, hgp⟩ := oW (B := B) (d := d) (es := cur) (by have h := H.out; rwa [← HCL.out] at h) aP (by omega)
   subst hgp
   have Hc : Sep b wr (rG (some ⟨gp, 0, none⟩) d cur :: rs) := by have h := H.out; rwa [← HCL.out] at h
   obtain ⟨k0, k1, k2, kf⟩ := oI (gp := gp) (d := d) Hc aP hx
   obtain ⟨m0, m1, m2, -⟩ := oI (gp := gp) (d := d) Hc aP hy
   have hij : (i : Int) < (j : Int) := by omega
   have hi0 : (0 : Int) ≤ (i : Int) := by omega
   have hi1 : (i : Int) < (l.length : Int) := by omega
   have hj0 : (0 : Int) ≤ (j : Int) := by omega
   have hj1 : (j : Int) < (l.length : Int) := by omega
   have hw2 : wrap64 ((i : Int) + 1) = ((i + 1 : Nat) : Int) := by
    have := HL.out
    unfold wrap64
    omega
   have hw3 : wrap64 ((j : Int) - 1) = (l.length : Int) - 1 - ((i + 1 : Nat) : Int) := by
    have := HL.out
    unfold wrap64
    omega
   have n00 : ¬ i * 3 = j * 3 := by omega
   have o00 : ¬ j * 3 = i * 3 := by omega
   have n01 : ¬ i * 3 = j * 3 + 1 := by omega
   have o01 : ¬ j * 3 + 1 = i * 3 := by omega
   have n02 : ¬ i * 3 = j * 3 + 2 := by omega
   have o02 : ¬ j * 3 + 2 = i * 3 := by omega
   have n10 : ¬ i * 3 + 1 = j * 3 := by omega
   have o10 : ¬ j * 3 = i * 3 + 1 := by omega
   have n11 : ¬ i * 3 + 1 = j * 3 + 1 := by omega
   have o11 : ¬ j * 3 + 1 = i * 3 + 1 := by omega
   have n12 : ¬ i * 3 + 1 = j * 3 + 2 := by omega
   have o12 : ¬ j * 3 + 2 = i * 3 + 1 := by omega
   have n20 : ¬ i * 3 + 2 = j * 3 := by omega
   have o20 : ¬ j * 3 = i * 3 + 2 := by omega
   have n21 : ¬ i * 3 + 2 = j * 3 + 1 := by omega
   have o21 : ¬ j * 3 + 1 = i * 3 + 2 := by omega
   have n22 : ¬ i * 3 + 2 = j * 3 + 2 := by omega
   have o22 : ¬ j * 3 + 2 = i * 3 + 2 := by omega
   clear Hc hcl hx hy hj hi hji
   go_upto_region 3 with fail
   go_region
   clear k0 k1 k2 kf m0 m1 m2 n00 o00 n01 o01 n02 o02 n10 o10 n11 o11 n12 o12 n20 o20 n21 o21 n22 o22
   refine qI (rs := row k41 41 (.slice (some ⟨gp, 0, none⟩) l.length d) ((cur.set i y).set j x) :: rs) (Sep.drew (J9 (pre := []) x (by rw [List.length_set]; exact HCL.out.symm) (x := y) (by rw [List.getElem?_set_ne (by have h1 := HJ.out; have h2 := HII.out; omega)]; exact HY.out) (J9 (pre := []) y HCL.out.symm HX.out H.out))) ?_
   intro wn n_
   clear H
   go_wp2_with fail
   try rw [hw2]
   try rw [hw3]
   refine ⟨⟨i + 1, (cur.set i y).set j x, rfl, rfl, ⟨by rw [HJ.out]; exact HI.out.step HII.out HX.out (by rw [← HJ.out]; exact HY.out)⟩, n_⟩, ?_⟩
   have := HII.out
   simp [intOf]
   omega
  ·have hin : ¬ (i : Int) < (l.length : Int) - 1 - (i : Int) := by omega
   have hin2 : ¬ ((i : Int) + ((i : Int) + 1)) < (l.length : Int) := by omega
   go_wp2_with fail
   go_end0
   refine ⟨rfl, ?_⟩
   rw [← HI.out.done hi]
   exact H
theorem qhJ {n : Int} (h0 : -9223372036854775808 ≤ n) (h1 : n < 9223372036854775808) : (Lit.int .i64 n).wf = true := by
 have : IntKind.i64.min ≤ n ∧ n ≤ IntKind.i64.max := ⟨h0, by show n ≤ 9223372036854775807; omega⟩
 simpa [Lit.wf] using this
set_option maxHeartbeats 8000000 in
theorem FN (A : Option Addr) (c : Nat) (l : List S62) (w : World) (hr : Kd.C k62 w A l.length l) (hl : l.length ≤ 1048576) (hf : ∀ x ∈ l, 0 ≤ x.f0 ∧ x.f0 < 18446744073709551616) :
  Calls Tryz.prog 51 #[.slice A l.length c] w fun e w' => ∃ A' c', e = .returned (.slice A' (dJ l).length c') ∧ aC (Sep w w' [rG A' c' (dJ l)]) := by
 have HRp := aC.mk hr
 have HL := aC.mk hl
 have HF := aC.mk hf
 clear hr hl hf
 have H := aC.mk (Sep.start w)
 go_enter Tryz.func51, Tryz.ntmps51
 have hw1 : wrap64 ((l.length : Int) - 1) = (l.length : Int) - 1 := by
  have := HL.out
  unfold wrap64
  omega
 go_wp2_with (first
 |((with_reducible refine aU (N := 9) rfl ?_);
   refine qcJ rfl H ?hr ?_;
   (case hr => first | (go_simp; done) | (go_simp; rfl) | rfl);
   intro gm wd1 n_;
   simp only [Act.put, zA, zZ, zS];
   clear H;
   have H := n_;
   clear n_)
 |fail)
 try rw [hw1]
 go_loopw [4, 5, 6, 7, 8] (fun v4 v5 v6 v7 v8 wr => ∃ (i : Nat) (o : List S41) (Ao : Option Addr) (co m : Nat) (D : DataW Unit), v4 = .slice Ao o.length co ∧ v5 = .int .i64 ((i : Int) - 1) ∧ i ≤ l.length ∧ m ≤ l.length - i ∧ aC (o = (dJ (l.drop i)).reverse) ∧ aC (L6 D (kF (l.drop i))) ∧ aC (Sep w wr [row k41 41 (.slice Ao o.length co) o, EK gm m D])) (fun _ v5 _ _ _ _ => (intOf v5 + 1).toNat)
 case atStart =>
  exact ⟨l.length, [], none, 0, 0, .map [], rfl, rfl, Nat.le_refl _, Nat.zero_le _, ⟨by rw [List.drop_length]; rfl⟩, ⟨by rw [List.drop_length]; exact ZX⟩, ⟨Sep.eU H.out⟩⟩
 case round =>
  clear H
  obtain ⟨i, o, Ao, co, m, D, rfl, rfl, hi, hm, HO, HD, H⟩ := hrel
  by_cases hi0 : i = 0
  ·
   subst hi0
   have hneg : ¬ (0 : Int) ≤ ((0 : Nat) : Int) - 1 := by omega
   have HOL : aC (o.length ≤ 1000000000) := ⟨by
    rw [HO.out, List.length_reverse]
    have h1 := vW (l.drop 0)
    have h2 := HL.out
    rw [List.drop_zero] at h1 ⊢
    omega⟩
   go_wp2_with fail
   refine (RQ Ao co o HOL.out H).mono ?_
   rintro e wd2 ⟨rfl, H4⟩
   go_wp2_with fail
   go_ret
   have e1 : o.reverse = dJ l := by rw [HO.out, List.reverse_reverse, List.drop_zero]
   have e2 : o.length = (dJ l).length := by rw [← e1, List.length_reverse]
   rw [e1, e2] at H4
   rw [e2]
   exact ⟨Ao, co, rfl, ⟨H4.out.drop1⟩⟩
  ·
   obtain ⟨j, hj⟩ : ∃ j, i = j + 1 := ⟨i - 1, by omega⟩
   subst hj
   clear hi0
   have hjl : j < l.length := by omega
   obtain ⟨x, hx⟩ : ∃ x, l[j]? = some x := ⟨_, List.getElem?_eq_getElem hjl⟩
   have hd : l.drop j = x :: l.drop (j + 1) := by
    rw [List.drop_eq_getElem_cons hjl]
    congr 1
    rw [List.getElem?_eq_getElem hjl] at hx
    exact Option.some.inj hx
   have HDJ := aC.mk hd
   have hxm := HF.out x (List.mem_of_getElem? hx)
   have HX0 := aC.mk hxm.1
   have HX1 := aC.mk hxm.2
   obtain ⟨ad, e1⟩ := qeF (H.out.came HRp.out) (by omega)
   subst e1
   obtain ⟨q0, q1⟩ := qhI (H.out.came HRp.out) hx
   have hji : ((j + 1 : Nat) : Int) - 1 = (j : Int) := by omega
   have hj0 : (0 : Int) ≤ (j : Int) := by omega
   have hj1 : (j : Int) < (l.length : Int) := by omega
   have hw3 : wrap64 ((j : Int) - 1) = ((j : Nat) : Int) - 1 := by
    have := HL.out
    unfold wrap64
    omega
   clear hd hx hxm
   rw [hji]
   go_wp2_with (first
 |((with_reducible refine aU (N := 6) rfl ?_);
   refine bK rfl H (cs := [.int .u64 0, .string ⟨#[]⟩]) (t := 62) ?hr ?_;
   (case hr => first | (go_simp; done) | (go_simp; rfl));
   intro gr wd3 n_;
   simp only [Act.put, zA, zZ, zS];
   clear H;
   have H := n_;
   clear n_;
   have c_r := H.out.cell (g := gr) aP;
   have z_r := H.out.frozen (g := gr) aP)
 |((with_reducible refine aV (t := 62) (p := 6) rfl ?_);
   refine bH (rs1 := [box gr [.int .u64 x.f0, .string x.f1] 62, row k41 41 (.slice Ao (o).length co) o, EK gm m D]) rfl (t := 62) (p := 6) rfl rfl ?hr (H1 := (Sep.set0 (Sep.set0 H.out 0 (.int .u64 x.f0) rfl) 1 (.string x.f1) rfl)) ?_;
   (case hr => first | (go_simp; done) | (go_simp; rfl));
   intro wd4 n_;
   clear H c_r z_r;
   have H := n_;
   clear n_;
   have c_r := H.out.cell (g := gr) aP;
   have z_r := H.out.frozen (g := gr) aP;
   clear q0 q1)
 |fail)
   obtain ⟨v1, v2, hv⟩ : ∃ v1 v2, dI.f 12 x.f1 = some (v1, v2) := ⟨_, _, number_eq x.f1⟩
   have HV : aC ((match pJ x.f1 with | some n => (n, true) | none => (0, false)) = (v1, v2)) := ⟨Option.some.inj ((number_eq x.f1).symm.trans hv)⟩
   refine (dI.calls 12 x.f1 v1 v2 _ hv).mono ?_
   rintro e wd5 ⟨rfl, hb_⟩
   clear hv
   have n_ : aC (Sep w wd5 [box gr [.int .u64 x.f0, .string x.f1] 62, row k41 41 (.slice Ao (o).length co) o, EK gm m D]) := ⟨H.out.step (eY.below hb_)⟩
   clear H c_r z_r
   have H := n_
   clear n_
   have c_r := H.out.cell (g := gr) aP
   clear hb_
   cases hak : pJ x.f1 with
   | some n =>
    have hv := HV.out
    rw [hak] at hv
    obtain ⟨rfl, rfl⟩ := Prod.mk.inj hv
    obtain ⟨hn0, hn1⟩ := RP hak
    have HAK := aC.mk hak
    have HN0 := aC.mk hn0
    have HN1 := aC.mk hn1
    have hlk := qbx (H.out.all (EK gm m D) (by simp)) HD.out hn0 hn1
    obtain ⟨cn, hcn⟩ : ∃ cn, cn = kF (l.drop (j + 1)) n := ⟨_, rfl⟩
    rw [← hcn] at hlk
    have HCN := aC.mk hcn
    have hcl : cn ≤ 1048576 := by
     have h1 := qbw (l.drop (j + 1)) n
     have h2 := HL.out
     rw [List.length_drop] at h1
     omega
    have hw4 : wrap64 ((cn : Int) + 1) = (cn : Int) + 1 := by unfold wrap64; omega
    have HML : aC (m < maxLen) := ⟨by have := HL.out; unfold maxLen; omega⟩
    have HMH : aC (∀ W, Sep w W [box gr [.int .u64 x.f0, .string x.f1] 62, row k41 41 (.slice Ao (o).length co) o, EK gm m D] → W.ownsMap Tryz.prog 28 (plainElem Tryz.prog 3) gm m D) := ⟨fun W h => h.all (EK gm m D) (by simp)⟩
    have HIM : aC (IsMap D) := ⟨World.ownsMap.isMap (HMH.out _ H.out)⟩
    have HCL := aC.mk hcl
    clear hak hn0 hn1 hcn hv hcl
    go_wp2_with (first
 |(at_mapUpdate;
   refine wpList_mapUpdate_own _ rfl _ _ _ 150 rfl 28 3 (int_keyed Tryz.underlying28) Tryz.underlying150 (plainElem Tryz.prog 3) gm m D rfl (HMH.out _ H.out) HML.out _ (.int .i64 ((cn : Int) + 1)) (.int .u64 n) rfl (by first | exact congrArg (Value.int .i64) hw4 | rfl) (qdd HN0.out HN1.out) (.lit (.int .i64 ((cn : Int) + 1))) [] (plainElem_int Tryz.underlying3 (qhJ (by omega) (by have := HCL.out; omega))) ?_;
   intro wd6 hown1 hgrow1;
   simp only [Act.put, zA, zZ, zS])
 |fail)
    have n_ : aC (Sep w wd6 [EK gm (m + 1) (D.put (.int .u64 n) (.lit (.int .i64 ((cn : Int) + 1)))), box gr [.int .u64 x.f0, .string x.f1] 62, row k41 41 (.slice Ao (o).length co) o]) := ⟨Sep.qdV (Sep.iY H.out) hown1 hgrow1⟩
    clear H c_r
    have H := n_
    clear n_
    have c_r := H.out.cell (g := gr) mem1
    try rw [hw3]
    refine ⟨⟨j, o, Ao, co, m + 1, _, rfl, rfl, by omega, by omega, ⟨?_⟩, ⟨?_⟩, ⟨(Sep.iW (Sep.drop1 H.out))⟩⟩, by simp [intOf] <;> omega⟩
    ·rw [HO.out, HDJ.out, dJ, if_neg (fun h => by rw [HAK.out] at h; cases h.1)]
    ·have h := Z4 HD.out HIM.out HN0.out HN1.out
     rw [← HCN.out] at h
     rw [HDJ.out]
     intro k g0 g1
     rw [h k g0 g1, vV, HAK.out]
     have e : (if k = n then cn + 1 else kF (l.drop (j + 1)) k) = (if some n = some k then kF (l.drop (j + 1)) k + 1 else kF (l.drop (j + 1)) k) := by
      by_cases hk : k = n
      ·subst hk
       rw [if_pos rfl, if_pos rfl, HCN.out]
      ·rw [if_neg hk, if_neg (fun e => hk (Option.some.inj e).symm)]
     exact congrArg (fun t : Nat => (DataW.lit (.int .i64 (t : Int)) : DataW Unit)) e
   | none =>
    have hv := HV.out
    rw [hak] at hv
    obtain ⟨rfl, rfl⟩ := Prod.mk.inj hv
    have HAK := aC.mk hak
    have hgd : ∀ k : Int, kF (l.drop j) k = kF (l.drop (j + 1)) k := fun k => by rw [HDJ.out, vV, HAK.out, if_neg (by simp)]
    have HGD : aC (L6 D (kF (l.drop j))) := ⟨fun k g0 g1 => by rw [hgd k]; exact HD.out k g0 g1⟩
    have hlk := qbx (H.out.all (EK gm m D) (by simp)) HD.out HX0.out HX1.out
    obtain ⟨cn, hcn⟩ : ∃ cn, cn = kF (l.drop (j + 1)) x.f0 := ⟨_, rfl⟩
    rw [← hcn] at hlk
    have HCN := aC.mk hcn
    clear hak hv hgd hcn
    by_cases hem : x.f1 = ⟨#[]⟩
    ·
     have HEM := aC.mk hem
     have hb1 : x.f1.toList = [] := by
      rw [hem]
      first | done | rw [ByteArray.toList_eq]
     clear hem
     go_wp2_with fail
     try rw [hw3]
     refine ⟨⟨j, o, Ao, co, m, D, rfl, rfl, by omega, by omega, ⟨?_⟩, HGD, ⟨(Sep.eG H.out)⟩⟩, by simp [intOf] <;> omega⟩
     rw [HO.out, HDJ.out, dJ, if_neg (fun h => h.2.1.1 HEM.out)]
    ·
     have HEM := aC.mk hem
     have hsz : 0 < x.f1.size := by
      rcases Nat.eq_zero_or_pos x.f1.size with h | h
      ·exact absurd (ByteArray.size_eq_zero_iff.1 h) hem
      ·exact h
     have hszI : (0 : Int) < (x.f1.size : Int) := by omega
     have qiH : (1 : Int) ≤ (x.f1.size : Int) := by omega
     have hb1 : ¬ x.f1.toList = [] := fun h => hem (qE (by rw [ByteArray.toList_eq] at h; exact h))
     have hbe : x.f1.toList.isEmpty = false := by
      cases e : x.f1.toList with
      | nil => exact absurd e hb1
      | cons _ _ => rfl
     have hba : ∀ h : 0 < x.f1.size, ((x.f1[0]'h).toNat : Int) = bt x.f1 0 := fun h => VN x.f1 0 h
     by_cases h80 : bt x.f1 0 = 80
     ·
      have H80 := aC.mk h80
      have hb3 : ∀ h : 0 < x.f1.size, ((x.f1[0]'h).toNat : Int) = 80 := fun h => (hba h).trans h80
      clear hba h80 hem
      by_cases hc0 : cn = 0
      ·
       have HC0 := aC.mk hc0
       subst hc0
       have HOL : aC (o.length ≤ 1048576) := ⟨by
        rw [HO.out, List.length_reverse]
        have h1 := vW (l.drop (j + 1))
        have h2 := HL.out
        rw [List.length_drop] at h1
        omega⟩
       go_upto_region 11 with fail
       have hS3 := Sep.drew H.out
       refine fO (n := 10) (S := fun w' => (∀ j : Nat, w'.cell? ⟨gr, j, none⟩ = [.int .u64 x.f0, .string x.f1][j]?)) (ds := []) #[false, false, false, false, false, false, false, false, false, false] (by kernel_rfl) rfl rfl ((fun j => ((Sep.drew H.out)).cell (g := gr) aP j)) (fun hHeld => ?_)
       refine puS (i := 0) (N := some 48) (v := ?_) (a' := ?_) rfl rfl (by kernel_rfl) (fun _ _ _ h => h) (Or.inl ⟨by rfl, ?_⟩) ?_ ?_
       rotate_left
       ·intro w'
        go_simp
        with_reducible rfl
       rotate_left
       ·simp only [Act.put, zA, zZ, zS, aI, aJ]
        rfl
       refine puS (i := 1) (N := some 49) (v := ?_) (a' := ?_) rfl rfl (by kernel_rfl) (fun _ _ _ h => h) (Or.inl ⟨by rfl, ?_⟩) ?_ ?_
       rotate_left
       ·intro w'
        go_simp
        with_reducible rfl
       rotate_left
       ·simp only [Act.put, zA, zZ, zS, aI, aJ]
        rfl
       refine puS (i := 3) (N := some 51) (v := ?_) (a' := ?_) rfl rfl (by kernel_rfl) (fun _ _ _ h => h) (Or.inl ⟨by rfl, ?_⟩) ?_ ?_
       rotate_left
       ·intro w'
        go_simp
        with_reducible rfl
       rotate_left
       ·simp only [Act.put, zA, zZ, zS, aI, aJ]
        rfl
       refine tkS (i := 2) (N := some 50) (v := ?_) (a' := ?_) rfl rfl (by kernel_rfl) (fun _ _ _ h => h) (Or.inl ⟨by rfl, ?_⟩) hHeld ?_ ?_
       rotate_left
       ·intro w' s0
        go_simp
        with_reducible rfl
       rotate_left
       ·simp only [Act.put, zA, zZ, zS, aI, aJ]
        rfl
       refine tkS (i := 4) (N := some 52) (v := ?_) (a' := ?_) rfl rfl (by kernel_rfl) (fun _ _ _ h => h) (Or.inl ⟨by rfl, ?_⟩) hHeld ?_ ?_
       rotate_left
       ·intro w' s0
        go_simp
        with_reducible rfl
       rotate_left
       ·simp only [Act.put, zA, zZ, zS, aI, aJ]
        rfl
       refine puS (i := 5) (N := some 53) (v := ?_) (a' := ?_) rfl rfl (by kernel_rfl) (fun _ _ _ h => h) (Or.inl ⟨by rfl, ?_⟩) ?_ ?_
       rotate_left
       ·intro w'
        go_simp
        with_reducible rfl
       rotate_left
       ·simp only [Act.put, zA, zZ, zS, aI, aJ]
        rfl
       refine puS (i := 6) (N := some 54) (v := ?_) (a' := ?_) rfl rfl (by kernel_rfl) (fun _ _ _ h => h) (Or.inl ⟨by rfl, ?_⟩) ?_ ?_
       rotate_left
       ·intro w'
        go_simp
        with_reducible rfl
       rotate_left
       ·simp only [Act.put, zA, zZ, zS, aI, aJ]
        rfl
       refine onS (i := 7) (N := some 55) rfl rfl (by kernel_rfl) (by decide) (fun K hK => ?_)
       refine RH (N := some 55) (by rfl) rfl hS3 [.int .u64 x.f0, .string (x.f1.extract 1 x.f1.size), .bool false] 41 1 ?_ ?_
       ·first | (go_simp; done) | (go_simp; rfl)
       intro g9 w9 hS9
       refine hK.out _ _ ((fun j => (hS9).cell (g := gr) mem1 j)) (fun hHeld => ?_)
       clear hK K
       refine fE (a' := ?_) ?_ ?_
       rotate_left
       ·show Act.put _ (some 55) _ = _
        simp only [Act.put, zA, zZ, zS, aI, aJ]
        rfl
       refine onS (i := 8) (N := some 56) rfl rfl (by kernel_rfl) (by decide) (fun K hK => ?_)
       refine yR k41 xE (by rfl) (.tmp 48) (.tmp 55) 31 41 (.agg #[.int .u64 0, .string ⟨#[]⟩, .bool false]) 32 rfl Tryz.underlying31 MR rfl (by decide) (by decide) (.slice Ao o.length co) o [(⟨x.f0, x.f1.extract 1 x.f1.size, false⟩ : S41)] (some ⟨g9, 0, none⟩) 1 (by first | rfl | (go_simp; done) | (go_simp; rfl)) (by first | rfl | (go_simp; done) | (go_simp; rfl)) (YE (fun j => hS9.cell (g := g9) aP j)) (fun x cs h => by obtain rfl := CO h; exact GU _ _ _ _) hS9.iY (by have := HOL.out; simp only [List.length_singleton]; omega) ?_
       intro A10 c10 w10 JY
       obtain ⟨o2, ho2⟩ : ∃ o2, o2 = o ++ [(⟨x.f0, x.f1.extract 1 x.f1.size, false⟩ : S41)] := ⟨_, rfl⟩
       rw [← ho2] at JY ⊢
       have HO2 := aC.mk ho2
       clear ho2
       refine hK.out _ _ ((fun j => JY.cell (g := gr) mem2 j)) (fun hHeld => ?_)
       clear hK K
       refine fE (a' := ?_) ?_ ?_
       rotate_left
       ·show Act.put _ (some 56) _ = _
        simp only [Act.put, zA, zZ, zS, aI, aJ]
        rfl
       refine puS (i := 9) (N := some 4) (v := ?_) (a' := ?_) rfl rfl (by kernel_rfl) (fun _ _ _ h => h) (Or.inl ⟨by rfl, ?_⟩) ?_ ?_
       rotate_left
       ·intro w'
        go_simp
        with_reducible rfl
       rotate_left
       ·simp only [Act.put, zA, zZ, zS, aI, aJ]
        rfl
       refine iT (by kernel_rfl) ?_
       go_wp2_with fail
       try rw [hw3]
       refine ⟨⟨j, o2, A10, c10, m, D, ?_, rfl, by omega, by omega, ⟨?_⟩, HGD, ⟨(Sep.drop1 (Sep.drop2 JY))⟩⟩, by simp [intOf] <;> omega⟩
       ·rfl
       ·rw [HO2.out, HO.out, HDJ.out, dJ, if_pos ⟨HAK.out, ⟨HEM.out, H80.out⟩, HCN.out.symm⟩, List.reverse_cons]
      ·
       have HC0 := aC.mk hc0
       have hcb : ((cn : Int) == 0) = false := by simpa using hc0
       have hcp : ¬ (cn : Int) = 0 := by omega
       clear hc0
       go_wp2_with fail
       try rw [hw3]
       refine ⟨⟨j, o, Ao, co, m, D, rfl, rfl, by omega, by omega, ⟨?_⟩, HGD, ⟨(Sep.eG H.out)⟩⟩, by simp [intOf] <;> omega⟩
       rw [HO.out, HDJ.out, dJ, if_neg (fun h => HC0.out (HCN.out.trans h.2.2))]
     ·
      have H80 := aC.mk h80
      have hb3 : ∀ h : 0 < x.f1.size, ¬ ((x.f1[0]'h).toNat : Int) = 80 := fun h e => h80 ((hba h).symm.trans e)
      clear hba h80 hem
      go_wp2_with fail
      try rw [hw3]
      refine ⟨⟨j, o, Ao, co, m, D, rfl, rfl, by omega, by omega, ⟨?_⟩, HGD, ⟨(Sep.eG H.out)⟩⟩, by simp [intOf] <;> omega⟩
      rw [HO.out, HDJ.out, dJ, if_neg (fun h => H80.out h.2.1.2)]
end Go.Proofs.U
namespace Go.Proofs.U
open Go.RowKit Go.Proofs.aA.aK Go.Proofs.aA.aW Go.Proofs.aA.aX Go.Proofs.Sp Go.Proofs.gB
def fuN (fu : Int) : Int := if 0 < fu then wrap64 (fu - 1) else fu
theorem FP {l : List S67} {fu : Int} {s : ByteArray} (h : bI l = true) (hi : lD l s (bsOf l s) = true) :
  gX l false fu (-1) s = if fu = 0 then (l, true, fu, -1, 17) else (l.take (bsOf l s) ++ l.drop (bsOf l s + 1), false, fuN fu, -1, 0) := by
 simp [gX, dF, h, hi, fuN]
theorem qby {l : List S67} {fu : Int} {s : ByteArray} {x : S67} {e : Nat} (h : bI l = true) (hi : lD l s (bsOf l s) = true) (hx : l[bsOf l s]? = some x) (he : e ≤ x.f1.size) :
  CV l false fu (-1) s (e : Int) = if fu = 0 then (l, true, fu, -1, 17) else (l.set (bsOf l s) ⟨x.f0, x.f1.extract 0 e, (e : Int)⟩, false, fuN fu, -1, 0) := by
 have hrf : rfT (e : Int) l (bsOf l s : Int) (lD l s (bsOf l s)) = 0 := by
  rw [rfT, hi, if_pos rfl, gZ hx, if_neg (by omega)]
 rw [CV]
 simp [dF, h, hrf, fuN, gZ hx]
def rmL : List S67 → List Pl → List S67
 | l, [] => l
 | l, p :: r => rmL (l.take (bsOf l p.1.f0) ++ l.drop (bsOf l p.1.f0 + 1)) r
theorem L8 : ∀ (g : List Pl) (l : List S67), bI l = true → bI (rmL l g) = true
 | [], l, h => h
 | p :: g, l, h => L8 g _ (rO h _)
theorem KA : ∀ (g : List Pl) (l : List S67) (front : List Pl), bI l = true → aN l = front ++ g.reverse → aN (rmL l g) = front
 | [], l, front, h, hp => by
  rw [List.reverse_nil, List.append_nil] at hp
  exact hp
 | p :: g, l, front, h, hp => by
  have hp' : aN l = (front ++ g.reverse) ++ p :: [] := by rw [hp]; simp
  exact KA g _ front (rO h _) (by rw [qF h hp']; simp)
theorem YG : ∀ (gs : List Pl) (L : Lg) (front : List Pl), aN L.l = front ++ gs.reverse → bI L.l = true → L.dn = false → L.fa = -1 →
  (∃ fu', lK L gs = (⟨rmL L.l gs, false, fu', -1, L.size, L.fr, L.nx, L.br⟩, 0) ∧ (L.fu = -1 → fu' = -1)) ∨
  (L.fu ≠ -1 ∧ ∃ g1 g2 R, gs = g1 ++ g2 ∧ lK L gs = (R, 17) ∧ R.l = rmL L.l g1 ∧ R.br = true)
 | [], ⟨l, dn, fu, fa, size, fr, nx, br⟩, front, hp, hr, hd, ha => by
  simp only at hd ha
  subst hd ha
  exact .inl ⟨fu, rfl, fun h => h⟩
 | p :: gs, ⟨l, dn, fu, fa, size, fr, nx, br⟩, front, hp, hr, hd, ha => by
  simp only at hd ha hp hr
  subst hd ha
  have hp' : aN l = (front ++ gs.reverse) ++ p :: [] := by rw [hp]; simp
  obtain ⟨g1, g2, _⟩ := jT hr hp'
  have hc := FP (fu := fu) hr g2
  by_cases hf : fu = 0
  ·subst hf
   rw [if_pos rfl] at hc
   refine .inr ⟨by show (0 : Int) ≠ -1; decide, [], p :: gs, chg ⟨l, false, 0, -1, size, fr, nx, br⟩ (l, true, 0, -1, 17), rfl, ?_, rfl, rfl⟩
   rw [lK]
   simp only [hc]
   rfl
  ·rw [if_neg hf] at hc
   have hstep : lK ⟨l, false, fu, -1, size, fr, nx, br⟩ (p :: gs) = lK ⟨l.take (bsOf l p.1.f0) ++ l.drop (bsOf l p.1.f0 + 1), false, fuN fu, -1, size, fr, nx, br⟩ gs := by
    rw [lK]
    simp only [hc]
    rfl
   have hp2 := qF hr hp'
   rw [List.append_nil] at hp2
   rcases YG gs ⟨l.take (bsOf l p.1.f0) ++ l.drop (bsOf l p.1.f0 + 1), false, fuN fu, -1, size, fr, nx, br⟩ front hp2 (rO hr _) rfl rfl with ⟨fu', h1, h2⟩ | ⟨h0, a, b, R, h1, h2, h3, h4⟩
   ·exact .inl ⟨fu', by rw [hstep, h1]; rfl, fun e => h2 (by show fuN fu = -1; rw [show fu = -1 from e]; decide)⟩
   ·exact .inr ⟨fun e => h0 (by show fuN fu = -1; rw [show fu = -1 from e]; decide), p :: a, b, R, by rw [h1]; rfl, by rw [hstep, h2], h3, h4⟩
theorem find_spec (l : List S67) : ∃ front, aN l = front ++ (findF l).gone ∧ (front = [] → (findF l).gone = []) ∧ ((findF l).qN = none ∨ ∃ a p e, (findF l).qN = some (p, e) ∧ front = a ++ [p] ∧ e < p.1.f1.size) := by
 obtain ⟨kept, ds, m, hc, hh⟩ := wU SU (aN l) (dP (aN l))
 have e : findF l = goF SU (aN l) (dP (aN l)) := rfl
 rw [← e] at hh
 rcases hh with ⟨a1, a2, a3, a4, a5⟩ | ⟨p, e, dt, a1, a2, a3, a4, a5, a6, a7⟩
 ·refine ⟨kept, a2, fun hk => ?_, .inl a1⟩
  subst hk
  obtain ⟨_, rfl⟩ := hc
  cases hg : (findF l).gone with
  | nil => rfl
  | cons p r =>
   exact absurd (by rw [a2, hg]; rfl) (a5 p r hg)
 ·refine ⟨kept ++ [p], by rw [a2]; simp, fun hk => by simp at hk, .inr ⟨kept, p, e, a1, rfl, a5⟩⟩
noncomputable def U3 (l : List S67) : List S67 := match (findF l).qN with
 | none => rmL l (findF l).gone.reverse
 | some x => (rmL l (findF l).gone.reverse).set (bsOf (rmL l (findF l).gone.reverse) x.1.1.f0) ⟨x.1.1.f0, x.1.1.f1.extract 0 x.2, (x.2 : Int)⟩
theorem Z7 {l : List S67} {size : Int} (fu : Int) (hr : bI l = true) (h0 : 1 ≤ size) (h1 : size ≤ 262144) :
  (∃ fu', iZ l false fu (-1) size = (⟨U3 l, false, fu', -1, size, (dP (aN l) : Int), ((findF l).next : Int), false⟩, bV (findF l).recs (dP (aN l)), 0) ∧ (fu = -1 → fu' = -1)) ∨
  (fu ≠ -1 ∧ ∃ g1 g2 R, (findF l).gone.reverse = g1 ++ g2 ∧ iZ l false fu (-1) size = (R, [], 17) ∧ R.l = rmL l g1 ∧ R.br = true) := by
 obtain ⟨front, hf, _, ht⟩ := find_spec l
 have hopen : iZ l false fu (-1) size = ((iC ⟨l, false, fu, -1, size, 0, 0, false⟩ (findF l) (dP (aN l))).1, if (iC ⟨l, false, fu, -1, size, 0, 0, false⟩ (findF l) (dP (aN l))).2 = 0 then bV (findF l).recs (dP (aN l)) else [],
   (iC ⟨l, false, fu, -1, size, 0, 0, false⟩ (findF l) (dP (aN l))).2) := by
  rw [iZ, if_pos hr, if_neg (by omega), if_neg (by simp)]
 rw [hopen]
 rcases YG (findF l).gone.reverse ⟨l, false, fu, -1, size, 0, 0, false⟩ front (by rw [List.reverse_reverse]; exact hf) hr rfl rfl with ⟨fu', e1, e2⟩ | ⟨e0, g1, g2, R, e1, e2, e3, e4⟩
 ·simp only at e1 e2
  rcases ht with ht | ⟨a, p, e, ht, hfr, he⟩
  ·have hD : iC ⟨l, false, fu, -1, size, 0, 0, false⟩ (findF l) (dP (aN l)) = (⟨U3 l, false, fu', -1, size, (dP (aN l) : Int), ((findF l).next : Int), false⟩, 0) := by
    rw [iC, e1, ht, U3, ht]
    simp [oK]
   rw [hD]
   exact .inl ⟨fu', by rw [if_pos rfl], e2⟩
  ·have hpl : aN (rmL l (findF l).gone.reverse) = a ++ p :: [] := by
    rw [KA _ l front hr (by rw [List.reverse_reverse]; exact hf), hfr]
   have hr2 := L8 (findF l).gone.reverse l hr
   obtain ⟨k1, k2, _⟩ := jT hr2 hpl
   have hc := qby (fu := fu') (e := e) hr2 k2 k1 (by omega)
   by_cases hz : fu' = 0
   ·have hD : iC ⟨l, false, fu, -1, size, 0, 0, false⟩ (findF l) (dP (aN l)) = (⟨rmL l (findF l).gone.reverse, true, fu', -1, size, 0, 0, true⟩, 17) := by
     rw [iC, e1, ht]
     rw [if_pos hz] at hc
     simp only [oK, hc, chg, if_true]
     rw [if_neg (by decide)]
     rfl
    rw [hD]
    exact .inr ⟨fun h => by have := e2 h; omega, (findF l).gone.reverse, [], _, by simp, by rw [if_neg (by simp)], rfl, rfl⟩
   ·have hD : iC ⟨l, false, fu, -1, size, 0, 0, false⟩ (findF l) (dP (aN l)) = (⟨U3 l, false, fuN fu', -1, size, (dP (aN l) : Int), ((findF l).next : Int), false⟩, 0) := by
     rw [iC, e1, ht]
     rw [if_neg hz] at hc
     simp only [oK, hc, chg, if_true]
     rw [U3, ht]
    rw [hD]
    exact .inl ⟨fuN fu', by rw [if_pos rfl], fun h => by rw [e2 h]; decide⟩
 ·have hD : iC ⟨l, false, fu, -1, size, 0, 0, false⟩ (findF l) (dP (aN l)) = (R, 17) := by
   rw [iC, e2, if_neg (by simp)]
  rw [hD]
  exact .inr ⟨e0, g1, g2, R, e1, by rw [if_neg (by simp)], e3, e4⟩
theorem L9 {l : List S67} {size : Int} (hr : bI l = true) (h0 : 1 ≤ size) (h1 : size ≤ 262144) :
  iZ l false (-1) (-1) size = (⟨U3 l, false, -1, -1, size, (dP (aN l) : Int), ((findF l).next : Int), false⟩, bV (findF l).recs (dP (aN l)), 0) := by
 rcases Z7 (-1) hr h0 h1 with ⟨fu', h, h2⟩ | ⟨h, _⟩
 ·rw [h, h2 rfl]
 ·exact absurd rfl h
theorem RS : ∀ (a b : List Bytes) (n : Nat), bV a n = bV b n → a = b
 | [], [], _, _ => rfl
 | [], d :: b, n, h => by simp [bV] at h
 | d :: a, [], n, h => by simp [bV] at h
 | d :: a, e :: b, n, h => by
  simp only [bV, List.cons.injEq, S62.mk.injEq, true_and] at h
  have hd := congrArg byt h.1
  rw [pR, pR] at hd
  rw [hd, RS a b _ h.2]
theorem O5 {l : List S67} {size : Int} (hr : bI l = true) (h0 : 1 ≤ size) (h1 : size ≤ 262144) :
  WF ⟨U3 l, false, -1, -1, size, (dP (aN l) : Int), ((findF l).next : Int), false⟩ (findF l).recs (dP (aN l)) (findF l).next := by
 obtain ⟨ds, n, m, hw, hrs, _⟩ := J5 (L9 hr h0 h1)
 have h2 : dP (aN l) = n := by have := hw.fr; simp only at this; omega
 have h3 : (findF l).next = m := by have := hw.nx; simp only at this; omega
 rw [h2] at hrs
 rw [RS _ _ _ hrs, h3]
 rw [h2, h3] at hw
 rw [h2]
 exact hw
def Sy (l : List S67) : Prop := ∀ x ∈ l, (x.f1.size : Int) = x.f2
theorem U4 {l : List S67} {dn : Bool} {fu fa : Int} {s : ByteArray} {wr : Bool} {rf : Int → Bool → Int} {df : Int → List S67} (hr : bI l = true) (h : (dF l dn fu fa s wr rf df).2.2.2.2 ≠ 0) :
  (dF l dn fu fa s wr rf df).1 = l ∨ (wr = true ∧ rf (bsOf l s) (lD l s (bsOf l s)) = 0 ∧ (dF l dn fu fa s wr rf df).1 = df (bsOf l s)) := by
 unfold dF at h ⊢
 rw [if_pos hr] at h ⊢
 split
 ·exact .inl rfl
 ·split
  ·rename_i hrf
   split
   ·exact .inl rfl
   ·split
    ·cases wr
     ·exact .inl rfl
     ·exact .inr ⟨rfl, hrf, rfl⟩
    ·rename_i h1 h2 h3
     rw [if_neg (by assumption), if_pos hrf, if_neg h2, if_neg h3] at h
     exact absurd rfl h
  ·exact .inl rfl
structure Back (l : List S67) (es : List Bytes) (n : Nat) : Prop where
 right : bI l = true
 sy : Sy l
 first : dP (aN l) = n
 recs : (findF l).recs = es
 next : (findF l).next = n + es.length
theorem WF.back {L : Lg} {ds : List Bytes} {n m : Nat} (h : WF L ds n m) (hs : Sy L.l) : Back L.l ds n :=
 ⟨h.right, hs, h.first, by rw [h.find], by rw [h.find]; exact pU SU n _ ds m h.ch⟩
theorem qeJ {l : List S67} {z : S67} {s : List UInt8} (h : bI l = true) (hz : z ∈ l) (hn : z.f0.toList = s) (h1 : (z.f1.size : Int) = z.f2) (h2 : ∀ x ∈ l, x.f0.toList ≠ s → (x.f1.size : Int) = x.f2) : Sy l := by
 intro x hx
 by_cases e : x.f0.toList = s
 ·obtain ⟨i, hi⟩ := List.getElem?_of_mem hx
  obtain ⟨j, hj⟩ := List.getElem?_of_mem hz
  have := TA h hi hj (e.trans hn.symm)
  subst this
  rw [hi] at hj
  injection hj with hj
  rw [hj]
  exact h1
 ·exact h2 x hx e
theorem qbz {L R : Lg} {ds : List Bytes} {n m k : Nat} (h : WF L ds n m) (hs : Sy L.l) (hR : iK L k = (R, 0)) : Sy R.l := by
 unfold iK at hR
 split at hR
 ·obtain ⟨hs1, hz⟩ := Prod.mk.inj hR
  obtain ⟨h1, h2, h3, h4, h5⟩ := kE hz
  rw [← hs1]
  show Sy (jW L.l L.dn L.fu L.fa (nameB L.nx.toNat)).1
  rw [jW, h4]
  intro x hx
  rcases (GX _ _ _).1 hx with rfl | hx
  ·rfl
  ·exact hs x hx
 ·obtain ⟨rfl, _⟩ := Prod.mk.inj hR
  exact hs
theorem Z8 {L : Lg} {ds : List Bytes} {n m : Nat} {a : List Pl} {p : Pl} (s : ByteArray) (h : WF L ds n m) (hp : aN L.l = a ++ [p]) :
  (fZ L p.1.f0 s).1.l = L.l.set (bsOf L.l p.1.f0) ⟨p.1.f0, p.1.f1 ++ s, p.1.f2⟩ ∧ bI (L.l.set (bsOf L.l p.1.f0) ⟨p.1.f0, p.1.f1 ++ s, p.1.f2⟩) = true ∨ (fZ L p.1.f0 s).2 ≠ 0 ∧ (fZ L p.1.f0 s).1.l = L.l := by
 have hp' : aN L.l = a ++ p :: [] := hp
 obtain ⟨g1, g2, _⟩ := jT h.right hp'
 have key : rfW s L.l (bsOf L.l p.1.f0) (lD L.l p.1.f0 (bsOf L.l p.1.f0)) = 0 → bI (L.l.set (bsOf L.l p.1.f0) ⟨p.1.f0, p.1.f1 ++ s, p.1.f2⟩) = true := by
  intro h3
  have hg := (xA h.right s h3).1
  simpa only [Int.toNat_natCast, gZ g1] using hg
 by_cases hz : (iU L.l L.dn L.fu L.fa p.1.f0 s).2.2.2.2 = 0
 ·obtain ⟨h1, h2, h3, h4, h5⟩ := kE hz
  refine .inl ⟨?_, key h3⟩
  show (iU L.l L.dn L.fu L.fa p.1.f0 s).1 = _
  rw [iU, h4]
  simp only [Int.toNat_natCast, gZ g1]
 ·rcases U4 h.right hz with h1 | ⟨_, h3, h4⟩
  ·exact .inr ⟨hz, h1⟩
  ·refine .inl ⟨?_, key h3⟩
   show (iU L.l L.dn L.fu L.fa p.1.f0 s).1 = _
   rw [iU, h4]
   simp only [Int.toNat_natCast, gZ g1]
theorem qbA {L R : Lg} {ds : List Bytes} {n m : Nat} {a : List Pl} {p : Pl} {s : ByteArray} (h : WF L ds n m) (hs : Sy L.l) (hp : aN L.l = a ++ [p]) (hR : pI L s = (R, 0)) : Sy R.l := by
 unfold pI at hR
 rw [yI hp] at hR
 split at hR
 case isFalse hz => exact absurd (by rw [hR]) hz
 rename_i hz
 split at hR
 case isFalse hz2 => exact absurd (by rw [hR]) hz2
 rename_i hz2
 obtain ⟨hR, _⟩ := Prod.mk.inj hR
 have hp' : aN L.l = a ++ p :: [] := hp
 obtain ⟨g1, g2, _⟩ := jT h.right hp'
 rcases Z8 s h hp with ⟨e1, e2⟩ | ⟨e1, _⟩
 case inr => exact absurd hz e1
 obtain ⟨y, hy⟩ : ∃ y : S67, y = ⟨p.1.f0, p.1.f1 ++ s, p.1.f2⟩ := ⟨_, rfl⟩
 rw [← hy] at e1 e2
 have hyn : y.f0 = p.1.f0 := by rw [hy]
 have hp2 : aN (fZ L p.1.f0 s).1.l = a ++ ((y, p.2) : Pl) :: [] := by rw [e1]; exact vT h.right hp' hyn
 have hr2 : bI (fZ L p.1.f0 s).1.l = true := by rw [e1]; exact e2
 obtain ⟨j1, j2, _⟩ := jT hr2 hp2
 simp only [hyn] at j1 j2
 have hz2' : (qY (fZ L p.1.f0 s).1.l (fZ L p.1.f0 s).1.dn (fZ L p.1.f0 s).1.fu (fZ L p.1.f0 s).1.fa p.1.f0).2.2.2.2 = 0 := hz2
 obtain ⟨h1, h2, h3, h4, h5⟩ := kE hz2'
 have e3 : R.l = (fZ L p.1.f0 s).1.l.set (bsOf (fZ L p.1.f0 s).1.l p.1.f0) ⟨y.f0, y.f1, (y.f1.size : Int)⟩ := by
  rw [← hR]
  show (qY (fZ L p.1.f0 s).1.l (fZ L p.1.f0 s).1.dn (fZ L p.1.f0 s).1.fu (fZ L p.1.f0 s).1.fa p.1.f0).1 = _
  rw [qY, h4]
  simp only [Int.toNat_natCast, gZ j1]
 have hr3 : bI R.l = true := by
  have hg := (EF hr2 j2).1
  simp only [Int.toNat_natCast, gZ j1] at hg
  rw [e3]
  exact hg
 refine qeJ (z := ⟨y.f0, y.f1, (y.f1.size : Int)⟩) (s := p.1.f0.toList) hr3 (by rw [e3]; exact ND j1) (by rw [← hyn]) rfl fun x hx hne => ?_
 rw [e3] at hx
 have hx2 := (mem_set (y := ⟨y.f0, y.f1, (y.f1.size : Int)⟩) (z := x) hr2 j1 rfl (by rw [hyn]; exact hne)).1 hx
 rw [e1] at hx2
 exact hs x ((mem_set (z := x) h.right g1 hyn hne).1 hx2)
theorem MB {L R : Lg} {ds : List Bytes} {n m : Nat} {d : ByteArray} (h : WF L ds n m) (hs : Sy L.l) (hR : dG L d = (R, 0)) : Sy R.l := by
 rw [dG, if_pos h.okL, jG, h.br, if_neg (by simp)] at hR
 split at hR
 ·cases hR
 split at hR
 ·cases hR
 split at hR
 case isFalse hz => exact absurd (by rw [hR]) hz
 rename_i hz
 obtain ⟨L1, hL1⟩ : ∃ L1, iK L (fV L.nx d).size = (L1, 0) := ⟨_, Prod.ext rfl hz⟩
 rw [hL1] at hR
 obtain ⟨w1, w2, w3, a, p, w4, w5⟩ := DI h hL1
 exact qbA w1 (qbz h hs hL1) w4 hR
theorem Back.opens {l : List S67} {es : List Bytes} {n : Nat} {size : Int} (h : Back l es n) (h0 : 1 ≤ size) (h1 : size ≤ 262144) :
  ∃ M, iZ l false (-1) (-1) size = (M, bV es n, 0) ∧ WF M es n (n + es.length) ∧ M.fu = -1 ∧ M.fa = -1 ∧ M.size = size := by
 have hw := O5 h.right h0 h1
 have ho := L9 h.right h0 h1
 rw [h.first, h.recs, h.next] at hw ho
 exact ⟨_, ho, hw, rfl, rfl, rfl⟩
theorem BH {l : List S67} {s : ByteArray} {wr : Bool} {rf : Int → Bool → Int} {df : Int → List S67} (hr : bI l = true) : (dF l false (-1) (-1) s wr rf df).2.2.1 = -1 ∧ (dF l false (-1) (-1) s wr rf df).2.2.2.1 = -1 := by
 rw [qC hr]
 split <;> exact ⟨rfl, rfl⟩
theorem MC {L R : Lg} {ds : List Bytes} {n m : Nat} {d : ByteArray} (h : WF L ds n m) (hu : L.fu = -1) (ha : L.fa = -1) (hR : dG L d = (R, 0)) : R.fu = -1 ∧ R.fa = -1 := by
 rw [dG, if_pos h.okL, jG, h.br, if_neg (by simp)] at hR
 split at hR
 ·cases hR
 split at hR
 ·cases hR
 split at hR
 case isFalse hz => exact absurd (by rw [hR]) hz
 rename_i hd hm hz
 obtain ⟨L1, hL1⟩ : ∃ L1, iK L (fV L.nx d).size = (L1, 0) := ⟨_, Prod.ext rfl hz⟩
 rw [hL1] at hR
 obtain ⟨w1, w2, w3, a, p, w4, w5⟩ := DI h hL1
 have h1 : L1.fu = -1 ∧ L1.fa = -1 := by
  unfold iK at hL1
  split at hL1
  ·obtain ⟨hs1, _⟩ := Prod.mk.inj hL1
   rw [← hs1, hu, ha, h.dn]
   exact BH h.right
  ·obtain ⟨rfl, _⟩ := Prod.mk.inj hL1
   exact ⟨hu, ha⟩
 simp only at hR
 unfold pI at hR
 rw [yI w4] at hR
 split at hR
 case isFalse hz1 => exact absurd (by rw [hR]) hz1
 rename_i hz1
 split at hR
 case isFalse hz2 => exact absurd (by rw [hR]) hz2
 rename_i hz2
 obtain ⟨hR, _⟩ := Prod.mk.inj hR
 have h2 : (fZ L1 p.1.f0 (fV L.nx d)).1.fu = -1 ∧ (fZ L1 p.1.f0 (fV L.nx d)).1.fa = -1 := by
  rw [fZ, h1.1, h1.2, w1.dn]
  exact BH w1.right
 have hp' : aN L1.l = a ++ p :: [] := w4
 obtain ⟨k1, k2, k3, k4⟩ := BF (L := L1) hp' hz1
 have k1' : bI (fZ L1 p.1.f0 (fV L.nx d)).1.l = true := k1
 have k3' : (fZ L1 p.1.f0 (fV L.nx d)).1.dn = false := k3
 rw [← hR]
 show (stepS (fZ L1 p.1.f0 (fV L.nx d)).1 p.1.f0).1.fu = -1 ∧ (stepS (fZ L1 p.1.f0 (fV L.nx d)).1 p.1.f0).1.fa = -1
 rw [stepS, h2.1, h2.2, k3']
 exact BH k1'
theorem qdW (d : ByteArray) : (⟨(byt d).toArray⟩ : ByteArray) = d := qE (pR _)
theorem YH (q : Int) : ∀ (ps : List Pl) (L : Lg) (ds : List Bytes) (n m : Nat), aN L.l = ps → bI L.l = true → L.dn = false → L.fu = -1 → L.fa = -1 → L.br = false → chain SU n ps ds m →
  ∃ R rest d0 d1, fC L ps q = (R, 0, rest) ∧ aN R.l = rest ∧ bI R.l = true ∧ R.dn = false ∧ R.fu = -1 ∧ R.fa = -1 ∧ R.br = false ∧ R.size = L.size ∧ R.nx = L.nx ∧ R.fr = L.fr ∧ ds = d0 ++ d1 ∧ chain SU (n + d0.length) rest d1 m ∧
   (rest = [] → ps = []) ∧ (d0 = [] ∨ ((n + d0.length : Nat) : Int) ≤ q) ∧ (Sy L.l → Sy R.l)
 | [], L, ds, n, m, hp, hr, hd, hu, ha, hb, hc => ⟨L, [], [], ds, rfl, hp, hr, hd, hu, ha, hb, rfl, rfl, rfl, rfl, hc, fun _ => rfl, .inl rfl, fun h => h⟩
 | [p], L, ds, n, m, hp, hr, hd, hu, ha, hb, hc => ⟨L, [p], [], ds, rfl, hp, hr, hd, hu, ha, hb, rfl, rfl, rfl, rfl, hc, fun h => h, .inl rfl, fun h => h⟩
 | p :: p2 :: r, ⟨l, dn, fu, fa, size, fr, nx, br⟩, ds, n, m, hp, hr, hd, hu, ha, hb, hc => by
  simp only at hp hr hd hu ha hb
  subst hd hu ha hb
  by_cases hq : (p2.2 : Int) ≤ q
  ·have hp' : aN l = [] ++ p :: (p2 :: r) := hp
   obtain ⟨g1, g2, _⟩ := jT hr hp'
   have hcm := FP (fu := -1) hr g2
   rw [if_neg (by decide)] at hcm
   have hstep : fC ⟨l, false, -1, -1, size, fr, nx, false⟩ (p :: p2 :: r) q = fC ⟨l.take (bsOf l p.1.f0) ++ l.drop (bsOf l p.1.f0 + 1), false, -1, -1, size, fr, nx, false⟩ (p2 :: r) q := by
    rw [fC, if_pos hq]
    simp only [hcm]
    rfl
   obtain ⟨c1, e1, e2, rfl, c2, c3⟩ := hc
   obtain ⟨R, rest, d0, d1, k1, k2, k3, k4, k5, k6, k7, k8, k9, k10, k11, k12, k13, k14, k15⟩ := YH q (p2 :: r) ⟨l.take (bsOf l p.1.f0) ++ l.drop (bsOf l p.1.f0 + 1), false, -1, -1, size, fr, nx, false⟩ e2 (n + e1.length) m (qF hr hp') (rO hr _) rfl rfl rfl rfl c3
   refine ⟨R, rest, e1 ++ d0, d1, by rw [hstep, k1], k2, k3, k4, k5, k6, k7, k8, k9, k10, by rw [k11, List.append_assoc], ?_, fun h => (by cases k13 h), .inr ?_, fun hs => k15 fun x hx => ?_⟩
   ·rw [List.length_append, ← Nat.add_assoc]
    exact k12
   ·rcases k14 with rfl | k14
    ·have := c3.1
     rw [List.append_nil]
     omega
    ·rw [List.length_append, ← Nat.add_assoc]
     exact k14
   ·rcases List.mem_append.1 hx with h | h
    ·exact hs x (List.mem_of_mem_take h)
    ·exact hs x (List.mem_of_mem_drop h)
  ·exact ⟨_, p :: p2 :: r, [], ds, by rw [fC, if_neg hq], hp, hr, rfl, rfl, rfl, rfl, rfl, rfl, rfl, rfl, hc, fun h => h, .inl rfl, fun h => h⟩
theorem qbB {L : Lg} {ds : List Bytes} {n m : Nat} {q : Int} (h : WF L ds n m) (hu : L.fu = -1) (ha : L.fa = -1) (hq : q ≤ L.nx) :
  ∃ R d0 d1, jH L q = (R, 0) ∧ WF R d1 (n + d0.length) m ∧ ds = d0 ++ d1 ∧ (d0 = [] ∨ ((n + d0.length : Nat) : Int) ≤ q) ∧ R.size = L.size ∧ R.fu = -1 ∧ R.fa = -1 ∧ (Sy L.l → Sy R.l) := by
 obtain ⟨R, rest, d0, d1, k1, k2, k3, k4, k5, k6, k7, k8, k9, k10, k11, k12, k13, k14, k15⟩ := YH q (aN L.l) L ds n m rfl h.right h.dn hu ha h.br h.ch
 have hfr : yO R rest = { R with fr := ((n + d0.length : Nat) : Int) } := by
  cases rest with
  | nil =>
   have hps := k13 rfl
   have hc := h.ch
   rw [hps] at hc
   obtain ⟨hc1, _⟩ := hc
   rw [hc1] at k11
   have h0 : d0 = [] := (List.append_eq_nil_iff.1 k11.symm).1
   subst h0
   show R = _
   have : R.fr = ((n + ([] : List Bytes).length : Nat) : Int) := by rw [k10, h.fr]; rfl
   rw [← this]
  | cons p r =>
   show { R with fr := (p.2 : Int) } = _
   rw [k12.1]
 refine ⟨yO R rest, d0, d1, ?_, ?_, k11, k14, ?_, ?_, ?_, ?_⟩
 ·rw [jH, if_pos h.okL, tY, h.br, if_neg (by simp), if_neg (by omega), k1]
  simp
 ·rw [hfr]
  refine ⟨k3, k4, k7, by show 1 ≤ R.size; rw [k8]; exact h.lo, by show R.size ≤ 262144; rw [k8]; exact h.hi, ?_, by show chain SU _ (aN R.l) d1 m; rw [k2]; exact k12, h.top, rfl, by show R.nx = _; rw [k9]; exact h.nx⟩
  show dP (aN R.l) = _
  rw [k2]
  cases rest with
  | nil =>
   have hps := k13 rfl
   have hf := h.first
   have hc := h.ch
   rw [hps] at hf hc
   obtain ⟨hc1, _⟩ := hc
   rw [hc1] at k11
   have h0 : d0 = [] := (List.append_eq_nil_iff.1 k11.symm).1
   subst h0
   exact hf
  | cons p r => exact k12.1
 ·rw [hfr]; exact k8
 ·rw [hfr]; exact k5
 ·rw [hfr]; exact k6
 ·rw [hfr]; exact k15
theorem yV (S : Sum) : ∀ (n : Nat) (ds : List Bytes), 16 * ds.length ≤ (fG S n ds).length
 | n, [] => by simp [fG]
 | n, d :: r => by
  have := yV S (n + 1) r
  simp only [fG, List.length_append, iL, List.length_cons]
  omega
theorem FQ : ∀ (n : Nat) (a : List Pl) (ds : List Bytes) (m : Nat), chain SU n a ds m → (∀ p ∈ a, p.1.f1.size ≤ 262144) → ds.length ≤ 16384 * a.length
 | n, [], ds, m, h, _ => by obtain ⟨rfl, _⟩ := h; simp
 | n, p :: r, ds, m, h, hs => by
  obtain ⟨h1, d1, d2, rfl, h3, h4⟩ := h
  have h5 := FQ _ r d2 m h4 (fun q hq => hs q (List.mem_cons_of_mem _ hq))
  have h6 := hs p (List.mem_cons_self ..)
  have h7 := yV SU n d1
  rw [← (tC h3).1, dK] at h7
  simp only [List.length_append, List.length_cons]
  omega
theorem WF.few {L : Lg} {ds : List Bytes} {n m : Nat} (h : WF L ds n m) : ds.length ≤ 1048576 := by
 have h1 := FQ n _ ds m h.ch (fun p hp => (((jM L.l).1 h.right).2.1 p.1 (lN.1 hp).1).2.1)
 have h2 := oM L.l
 have h3 := jZ h.right
 omega
noncomputable def pK (l : List S67) (dn : Bool) (fu fa size most : Int) : Qu × Int :=
 if bI l = true then
  if most < 1 ∨ 1024 < most then (Qz, 2)
  else if (iZ l dn fu fa size).2.2 = 0 then
   (if 1024 < (dJ (iZ l dn fu fa size).2.1).length then (Qz, 3) else (⟨(iZ l dn fu fa size).1, dJ (iZ l dn fu fa size).2.1, most⟩, 0))
  else if (iZ l dn fu fa size).1.br = true then (⟨(iZ l dn fu fa size).1, [], most⟩, (iZ l dn fu fa size).2.2)
  else (Qz, (iZ l dn fu fa size).2.2)
 else (Qz, 6)
theorem U5 {ds : List gB.Bytes} {n : Nat} (h : n + ds.length ≤ 4611686018427387904) : ∀ x ∈ bV ds n, 0 ≤ x.f0 ∧ x.f0 < 18446744073709551616 := by
 intro x hx
 obtain ⟨i, hi⟩ := List.getElem?_of_mem hx
 have h1 := J6 ds n i x hi
 have h2 := (List.getElem?_eq_some_iff.1 hi).1
 rw [qO] at h2
 rw [h1]
 omega
theorem Z9 {l : List S67} {dn : Bool} {fu fa size : Int} {R : Lg} {rs : List S62} (h : iZ l dn fu fa size = (R, rs, 0)) : rs.length ≤ 1048576 ∧ ∀ x ∈ rs, 0 ≤ x.f0 ∧ x.f0 < 18446744073709551616 := by
 obtain ⟨ds, n, m, hw, rfl, _⟩ := J5 h
 have h1 := pU SU n _ ds m hw.ch
 have h2 := hw.top
 unfold most at h2
 exact ⟨by rw [qO]; exact hw.few, U5 (by omega)⟩
set_option maxHeartbeats 8000000 in
theorem MF (A : Option Addr) (c : Nat) (l : List S67) (dn : Bool) (fu fa size most : Int) (w : World) (hr : Kd.C k67 w A l.length l) (hc : l.length ≤ c) (hG : Gl w) :
  Calls Tryz.prog 18 #[.agg #[.slice A l.length c, .bool dn, .int .i64 fu, .int .i64 fa], .int .i64 size, .int .i64 most] w fun e w' => ∃ A' c' B' d', e = .returned (.tuple #[.agg (qc A' c' B' d' (pK l dn fu fa size most).1).toArray, .int .i64 (pK l dn fu fa size most).2])
   ∧ aC (Sep w w' [lV A' c' (pK l dn fu fa size most).1.L.l, rG B' d' (pK l dn fu fa size most).1.es]) := by
 have HRp := aC.mk hr
 have HCp := aC.mk hc
 have HG := aC.mk hG
 clear hr hc hG
 obtain ⟨O, hO⟩ : ∃ O, O = pK l dn fu fa size most := ⟨_, rfl⟩
 rw [← hO]
 have HO := aC.mk hO
 clear hO
 have H := aC.mk (Sep.start w)
 go_enter Tryz.func18, Tryz.ntmps18
 go_wp2_with (first
 |((with_reducible refine aU (N := 3) rfl ?_);
   refine bK rfl H (cs := [.slice A l.length c, .bool dn, .int .i64 fu, .int .i64 fa]) (t := 27) ?hr ?_;
   (case hr => first | (go_simp; done) | (go_simp; rfl));
   intro gd wd1 n_;
   simp only [Act.put, zA, zZ, zS];
   clear H;
   have H := n_;
   clear n_;
   have c_d := H.out.cell (g := gd) aP)
 |((with_reducible refine aU (N := 6) rfl ?_);
   refine bK rfl H (cs := [.slice none 0 0, .bool false, .int .i64 0, .int .i64 0, .int .i64 0, .int .u64 0, .int .u64 0, .bool false, .slice none 0 0, .int .i64 0]) (t := 33) ?hr ?_;
   (case hr => first | (go_simp; done) | (go_simp; rfl));
   intro gz wd2 n_;
   simp only [Act.put, zA, zZ, zS];
   clear H c_d;
   have H := n_;
   clear n_;
   have c_z := H.out.cell (g := gz) aP;
   have z_z := H.out.frozen (g := gz) aP;
   have c_d := H.out.cell (g := gd) mem1)
 |fail)
 by_cases hok : bI l = true
 ·
  refine ((dW.calls A c l dn fu fa 0 _ (H.out.came HRp.out) HCp.out (by rw [dW.f, if_pos hok])).mono ?_)
  rintro e wd3 ⟨rfl, hb_⟩
  have n_ : aC (Sep w wd3 [box gz [.slice none 0 0, .bool false, .int .i64 0, .int .i64 0, .int .i64 0, .int .u64 0, .int .u64 0, .bool false, .slice none 0 0, .int .i64 0] 33, box gd [.slice A l.length c, .bool dn, .int .i64 fu, .int .i64 fa] 27]) := ⟨H.out.step hb_⟩
  clear H c_z z_z c_d
  have H := n_
  clear n_
  have c_z := H.out.cell (g := gz) aP
  have z_z := H.out.frozen (g := gz) aP
  have c_d := H.out.cell (g := gd) mem1
  clear hb_
  have HOK := aC.mk hok
  clear hok
  by_cases hm1 : most < 1
  ·
   have hOV : O = (Qz, 2) := by rw [HO.out, pK, if_pos HOK.out, if_pos (.inl hm1)]
   go_wp2_with (first
 |((with_reducible refine aV (t := 33) (p := 6) rfl ?_);
   refine bH (rs1 := [box gz [.slice none 0 0, .bool false, .int .i64 0, .int .i64 0, .int .i64 0, .int .u64 0, .int .u64 0, .bool false, .slice none 0 0, .int .i64 0] 33, box gd [.slice A l.length c, .bool dn, .int .i64 fu, .int .i64 fa] 27]) rfl (t := 33) (p := 6) rfl rfl ?hr (H1 := (Sep.set0 (Sep.set0 (Sep.set0 (Sep.set0 (Sep.set0 (Sep.set0 (Sep.set0 (Sep.set0 (Sep.set0 (Sep.set0 H.out 0 (.slice none 0 0) rfl) 1 (.bool false) rfl) 2 (.int .i64 0) rfl) 3 (.int .i64 0) rfl) 4 (.int .i64 0) rfl) 5 (.int .u64 0) rfl) 6 (.int .u64 0) rfl) 7 (.bool false) rfl) 8 (.slice none 0 0) rfl) 9 (.int .i64 0) rfl)) ?_;
   (case hr => first | (go_simp; done) | (go_simp; rfl));
   intro wd4 n_;
   clear H c_z z_z c_d;
   have H := n_;
   clear n_;
   have c_z := H.out.cell (g := gz) aP;
   have z_z := H.out.frozen (g := gz) aP;
   have c_d := H.out.cell (g := gd) mem1)
 |fail)
   refine bodyPost_ret (dH (rs := [.cell 6 33, .tmp 7]) rfl (by simp) (.cell gz 33 _ _ _ rfl (H.out.jF (g := gz) aP) Tryz.underlying33 rfl info33 (.tmp .nil))) rfl ?_
   subst hOV
   exact ⟨none, 0, none, 0, rfl, ⟨Sep.eU (Sep.eU (Sep.eG (Sep.drop1 H.out)))⟩⟩
  ·
   by_cases hm2 : 1024 < most
   ·
    have hOV : O = (Qz, 2) := by rw [HO.out, pK, if_pos HOK.out, if_pos (.inr hm2)]
    go_wp2_with (first
 |((with_reducible refine aV (t := 33) (p := 6) rfl ?_);
   refine bH (rs1 := [box gz [.slice none 0 0, .bool false, .int .i64 0, .int .i64 0, .int .i64 0, .int .u64 0, .int .u64 0, .bool false, .slice none 0 0, .int .i64 0] 33, box gd [.slice A l.length c, .bool dn, .int .i64 fu, .int .i64 fa] 27]) rfl (t := 33) (p := 6) rfl rfl ?hr (H1 := (Sep.set0 (Sep.set0 (Sep.set0 (Sep.set0 (Sep.set0 (Sep.set0 (Sep.set0 (Sep.set0 (Sep.set0 (Sep.set0 H.out 0 (.slice none 0 0) rfl) 1 (.bool false) rfl) 2 (.int .i64 0) rfl) 3 (.int .i64 0) rfl) 4 (.int .i64 0) rfl) 5 (.int .u64 0) rfl) 6 (.int .u64 0) rfl) 7 (.bool false) rfl) 8 (.slice none 0 0) rfl) 9 (.int .i64 0) rfl)) ?_;
   (case hr => first | (go_simp; done) | (go_simp; rfl));
   intro wd5 n_;
   clear H c_z z_z c_d;
   have H := n_;
   clear n_;
   have c_z := H.out.cell (g := gz) aP;
   have z_z := H.out.frozen (g := gz) aP;
   have c_d := H.out.cell (g := gd) mem1)
 |fail)
    refine bodyPost_ret (dH (rs := [.cell 6 33, .tmp 7]) rfl (by simp) (.cell gz 33 _ _ _ rfl (H.out.jF (g := gz) aP) Tryz.underlying33 rfl info33 (.tmp .nil))) rfl ?_
    subst hOV
    exact ⟨none, 0, none, 0, rfl, ⟨Sep.eU (Sep.eU (Sep.eG (Sep.drop1 H.out)))⟩⟩
   ·
    have HM : aC (¬ (most < 1 ∨ 1024 < most)) := ⟨by omega⟩
    obtain ⟨R, rs, e, hOF⟩ : ∃ R rs e, iZ l dn fu fa size = (R, rs, e) := ⟨_, _, _, rfl⟩
    have HOP := aC.mk (fun A c w hr hc hG => open_any A c l dn fu fa size w hr hc hG)
    rw [hOF] at HOP
    dsimp only at HOP
    have HOF := aC.mk hOF
    clear hOF
    go_wp2_with fail
    refine ((HOP.out A c _ (H.out.came HRp.out) HCp.out (HG.out.below H.out.below)).mono ?_)
    rintro e wd6 ⟨A1, c1, A2, c2, rfl, HJ⟩
    have n_ : aC (Sep w wd6 [row k67 67 (.slice A1 (R.l).length c1) R.l, row k62 62 (.slice A2 (rs).length c2) rs, box gz [.slice none 0 0, .bool false, .int .i64 0, .int .i64 0, .int .i64 0, .int .u64 0, .int .u64 0, .bool false, .slice none 0 0, .int .i64 0] 33, box gd [.slice A l.length c, .bool dn, .int .i64 fu, .int .i64 fa] 27]) := ⟨fM H.out HJ.out⟩
    clear H c_z z_z c_d
    have H := n_
    clear n_
    have c_z := H.out.cell (g := gz) mem2
    have z_z := H.out.frozen (g := gz) mem2
    have c_d := H.out.cell (g := gd) mem3
    clear HJ
    simp only [lgc]
    clear HOP
    clear c_z z_z c_d
    have c_z := H.out.cell (g := gz) mem2
    have z_z := H.out.frozen (g := gz) mem2
    have c_d := H.out.cell (g := gd) mem3
    by_cases hz : e = 0
    ·
     subst hz
     have HRL := aC.mk (Z9 HOF.out)
     obtain ⟨es, hes⟩ : ∃ es, es = dJ rs := ⟨_, rfl⟩
     have HES := aC.mk hes
     have hOV : O = if 1024 < es.length then (Qz, 3) else (⟨R, es, most⟩, 0) := by rw [HO.out, pK, if_pos HOK.out, if_neg HM.out, HOF.out, if_pos rfl, hes]
     have HOV := aC.mk hOV
     clear HO hOV hes
     go_upto_region 11 with (first
 |((with_reducible refine aU (N := 9) rfl ?_);
   refine bK rfl H (cs := [.slice none 0 0, .bool false, .int .i64 0, .int .i64 0, .int .i64 0, .int .u64 0, .int .u64 0, .bool false]) (t := 30) ?hr ?_;
   (case hr => first | (go_simp; done) | (go_simp; rfl));
   intro gb wd7 n_;
   simp only [Act.put, zA, zZ, zS];
   clear H c_z z_z c_d;
   have H := n_;
   clear n_;
   have c_b := H.out.cell (g := gb) aP;
   have z_b := H.out.frozen (g := gb) aP;
   have c_z := H.out.cell (g := gz) mem3;
   have z_z := H.out.frozen (g := gz) mem3;
   have c_d := H.out.cell (g := gd) bT)
 |((with_reducible refine aV (t := 30) (p := 9) rfl ?_);
   refine bH (rs1 := [box gb [.slice A1 R.l.length c1, .bool R.dn, .int .i64 R.fu, .int .i64 R.fa, .int .i64 R.size, .int .u64 R.fr, .int .u64 R.nx, .bool R.br] 30, row k67 67 (.slice A1 (R.l).length c1) R.l, row k62 62 (.slice A2 (rs).length c2) rs, box gz [.slice none 0 0, .bool false, .int .i64 0, .int .i64 0, .int .i64 0, .int .u64 0, .int .u64 0, .bool false, .slice none 0 0, .int .i64 0] 33, box gd [.slice A l.length c, .bool dn, .int .i64 fu, .int .i64 fa] 27]) rfl (t := 30) (p := 9) rfl rfl ?hr (H1 := (Sep.set0 (Sep.set0 (Sep.set0 (Sep.set0 (Sep.set0 (Sep.set0 (Sep.set0 (Sep.set0 H.out 0 (.slice A1 R.l.length c1) rfl) 1 (.bool R.dn) rfl) 2 (.int .i64 R.fu) rfl) 3 (.int .i64 R.fa) rfl) 4 (.int .i64 R.size) rfl) 5 (.int .u64 R.fr) rfl) 6 (.int .u64 R.nx) rfl) 7 (.bool R.br) rfl)) ?_;
   (case hr => first | (go_simp; done) | (go_simp; rfl));
   intro wd8 n_;
   clear H c_b z_b c_z z_z c_d;
   have H := n_;
   clear n_;
   have c_b := H.out.cell (g := gb) aP;
   have z_b := H.out.frozen (g := gb) aP;
   have c_z := H.out.cell (g := gz) mem3;
   have z_z := H.out.frozen (g := gz) mem3;
   have c_d := H.out.cell (g := gd) bT)
 |fail)
     refine fO (n := 7) (S := fun w' => (∀ j : Nat, w'.cell? ⟨gb, j, none⟩ = [.slice A1 R.l.length c1, .bool R.dn, .int .i64 R.fu, .int .i64 R.fa, .int .i64 R.size, .int .u64 R.fr, .int .u64 R.nx, .bool R.br][j]?) ∧ Sp.Sep w w' [box gb [.slice A1 R.l.length c1, .bool R.dn, .int .i64 R.fu, .int .i64 R.fa, .int .i64 R.size, .int .u64 R.fr, .int .u64 R.nx, .bool R.br] 30, row k67 67 (.slice A1 (R.l).length c1) R.l, row k62 62 (.slice A2 (rs).length c2) rs, box gz [.slice none 0 0, .bool false, .int .i64 0, .int .i64 0, .int .i64 0, .int .u64 0, .int .u64 0, .bool false, .slice none 0 0, .int .i64 0] 33, box gd [.slice A l.length c, .bool dn, .int .i64 fu, .int .i64 fa] 27]) (ds := [6]) #[false, false, false, false, false, false, false] (by kernel_rfl) rfl rfl ⟨(fun j => ((Sep.drew H.out)).cell (g := gb) aP j), (Sep.drew H.out)⟩ (fun hHeld => ?_)
     refine puS (i := 1) (N := some 51) (v := ?_) (a' := ?_) rfl rfl (by kernel_rfl) (fun _ _ _ h => h) (Or.inl ⟨by rfl, ?_⟩) ?_ ?_
     rotate_left
     ·intro w'
      go_simp
      with_reducible rfl
     rotate_left
     ·simp only [Act.put, zA, zZ, zS, aI, aJ]
      rfl
     refine puS (i := 3) (N := some 53) (v := ?_) (a' := ?_) rfl rfl (by kernel_rfl) (fun _ _ _ h => h) (Or.inl ⟨by rfl, ?_⟩) ?_ ?_
     rotate_left
     ·intro w'
      go_simp
      with_reducible rfl
     rotate_left
     ·simp only [Act.put, zA, zZ, zS, aI, aJ]
      rfl
     refine tkS (i := 0) (N := some 50) (v := ?_) (a' := ?_) rfl rfl (by kernel_rfl) (fun _ _ _ h => h) (Or.inl ⟨by rfl, ?_⟩) hHeld ?_ ?_
     rotate_left
     ·rintro w' ⟨s0, s1⟩
      go_simp
      with_reducible rfl
     rotate_left
     ·simp only [Act.put, zA, zZ, zS, aI, aJ]
      rfl
     refine qd6 (σ := Nat × Option Addr × Nat) 1 #[true, true, true, true, true, true, false] (fun s => [(52, .slice s.2.1 es.length s.2.2), (54, .agg #[.slice A1 R.l.length c1, .bool R.dn, .int .i64 R.fu, .int .i64 R.fa, .int .i64 R.size, .int .u64 R.fr, .int .u64 R.nx, .bool R.br, .slice s.2.1 es.length s.2.2, .int .i64 most]), (12, .pointer (some ⟨s.1, 0, none⟩))]) (fun s w' => (∀ j : Nat, w'.cell? ⟨gb, j, none⟩ = [.slice A1 R.l.length c1, .bool R.dn, .int .i64 R.fu, .int .i64 R.fa, .int .i64 R.size, .int .u64 R.fr, .int .u64 R.nx, .bool R.br][j]?) ∧ Sp.Sep w w' (box s.1 [.slice none 0 0, .bool false, .int .i64 0, .int .i64 0, .int .i64 0, .int .u64 0, .int .u64 0, .bool false, .slice none 0 0, .int .i64 0] 33 :: row k41 41 (.slice s.2.1 es.length s.2.2) es :: [box gb [.slice A1 R.l.length c1, .bool R.dn, .int .i64 R.fu, .int .i64 R.fa, .int .i64 R.size, .int .u64 R.fr, .int .u64 R.nx, .bool R.br] 30, row k67 67 (.slice A1 (R.l).length c1) R.l, row k62 62 (.slice A2 (rs).length c2) rs, box gz [.slice none 0 0, .bool false, .int .i64 0, .int .i64 0, .int .i64 0, .int .u64 0, .int .u64 0, .bool false, .slice none 0 0, .int .i64 0] 33, box gd [.slice A l.length c, .bool dn, .int .i64 fu, .int .i64 fa] 27])) ?_ ?_
     rotate_left
     ·intro qde
      refine qgV (i := 2) (j := 5) (Ni := some 52) (Nj := some 12) #[true, true, true, true, false, false, false] #[true, true, false, true, false, true, false] rfl rfl rfl rfl (by kernel_rfl) (by decide) (by decide) (fun K hK => ?_) (fun K hK => ?_)
      ·skip
       refine oC Tryz.func51 (by kernel_rfl) rfl #[.slice A2 rs.length c2] (by rfl) rfl rfl (by simp only [List.map_toArray, List.map_cons, List.map_nil]; rfl) ?_
       with_reducible refine (FN A2 c2 rs _ (Sep.reads (A := A2) hHeld.2 mem2).2.2 HRL.out.1 HRL.out.2).mono ?_
       rintro e w70 ⟨A7, c7, rfl, HJ⟩
       have hS2 := fM hHeld.2 HJ.out
       rw [← HES.out] at hS2 ⊢
       refine ⟨_, rfl, ?_⟩
       refine hK.out _ _ ⟨(fun j => (hS2).cell (g := gb) mem1 j), (hS2).eG⟩ (fun hHeld => ?_)
       clear hK K
       refine fE (a' := ?_) ?_ ?_
       rotate_left
       ·show Act.put _ (some 52) _ = _
        simp only [Act.put, zA, zZ, zS, aI, aJ]
        rfl
       refine puS (i := 4) (N := some 54) (v := ?_) (a' := ?_) rfl rfl (by kernel_rfl) (fun _ _ _ h => h) (Or.inl ⟨by rfl, ?_⟩) ?_ ?_
       rotate_left
       ·intro w'
        go_simp
        with_reducible rfl
       rotate_left
       ·simp only [Act.put, zA, zZ, zS, aI, aJ]
        rfl
       refine onS (i := 5) (N := some 12) rfl rfl (by kernel_rfl) (by decide) (fun K hK => ?_)
       refine IC (N := some 12) (by rfl) rfl hS2 [.slice none 0 0, .bool false, .int .i64 0, .int .i64 0, .int .i64 0, .int .u64 0, .int .u64 0, .bool false, .slice none 0 0, .int .i64 0] 33 ?_ ?_
       ·first | (go_simp; done) | (go_simp; rfl)
       intro g12 qiI hS5
       refine hK.out _ _ ⟨(fun j => (hS5).cell (g := gb) mem2 j), (hS5).eG.eG⟩ (fun hHeld => ?_)
       clear hK K
       refine fE (a' := ?_) ?_ ?_
       rotate_left
       ·show Act.put _ (some 12) _ = _
        simp only [Act.put, zA, zZ, zS, aI, aJ]
        rfl
       exact fE (by simp only [DY, Act.put, zA, zZ, zS]) (qde ⟨g12, A7, c7⟩ _ ⟨(fun j => ((hS5).eG.eG).cell (g := gb) aP j), hS5⟩)
      ·skip
       refine IC (N := some 12) (by rfl) rfl hHeld.2 [.slice none 0 0, .bool false, .int .i64 0, .int .i64 0, .int .i64 0, .int .u64 0, .int .u64 0, .bool false, .slice none 0 0, .int .i64 0] 33 ?_ ?_
       ·first | (go_simp; done) | (go_simp; rfl)
       intro g12 qiJ hS5
       refine hK.out _ _ ⟨(fun j => (hS5).cell (g := gb) mem1 j), (hS5).eG⟩ (fun hHeld => ?_)
       clear hK K
       refine fE (a' := ?_) ?_ ?_
       rotate_left
       ·show Act.put _ (some 12) _ = _
        simp only [Act.put, zA, zZ, zS, aI, aJ]
        rfl
       refine onS (i := 2) (N := some 52) rfl rfl (by kernel_rfl) (by decide) (fun K hK => ?_)
       refine oC Tryz.func51 (by kernel_rfl) rfl #[.slice A2 rs.length c2] (by rfl) rfl rfl (by simp only [List.map_toArray, List.map_cons, List.map_nil]; rfl) ?_
       with_reducible refine (FN A2 c2 rs _ (Sep.reads (A := A2) hS5 mem3).2.2 HRL.out.1 HRL.out.2).mono ?_
       rintro e w71 ⟨A7, c7, rfl, HJ⟩
       have hS2 := fM hS5 HJ.out
       rw [← HES.out] at hS2 ⊢
       refine ⟨_, rfl, ?_⟩
       refine hK.out _ _ ⟨(fun j => (hS2).cell (g := gb) mem2 j), (hS2).eG.eG⟩ (fun hHeld => ?_)
       clear hK K
       refine fE (a' := ?_) ?_ ?_
       rotate_left
       ·show Act.put _ (some 52) _ = _
        simp only [Act.put, zA, zZ, zS, aI, aJ]
        rfl
       refine puS (i := 4) (N := some 54) (v := ?_) (a' := ?_) rfl rfl (by kernel_rfl) (fun _ _ _ h => h) (Or.inl ⟨by rfl, ?_⟩) ?_ ?_
       rotate_left
       ·intro w'
        go_simp
        with_reducible rfl
       rotate_left
       ·simp only [Act.put, zA, zZ, zS, aI, aJ]
        rfl
       exact fE (by simp only [DY, Act.put, zA, zZ, zS]) (qde ⟨g12, A7, c7⟩ _ ⟨(fun j => ((hS2.iW).eG.eG).cell (g := gb) aP j), hS2.iW⟩)
     rintro ⟨g12, A7, c7⟩ w18 ⟨qhK, qaa⟩
     dsimp only at qaa ⊢
     have hHeld : (∀ j : Nat, w18.cell? ⟨gb, j, none⟩ = [.slice A1 R.l.length c1, .bool R.dn, .int .i64 R.fu, .int .i64 R.fa, .int .i64 R.size, .int .u64 R.fr, .int .u64 R.nx, .bool R.br][j]?) ∧ Sp.Sep w w18 [box gb [.slice A1 R.l.length c1, .bool R.dn, .int .i64 R.fu, .int .i64 R.fa, .int .i64 R.size, .int .u64 R.fr, .int .u64 R.nx, .bool R.br] 30, row k67 67 (.slice A1 (R.l).length c1) R.l, row k62 62 (.slice A2 (rs).length c2) rs, box gz [.slice none 0 0, .bool false, .int .i64 0, .int .i64 0, .int .i64 0, .int .u64 0, .int .u64 0, .bool false, .slice none 0 0, .int .i64 0] 33, box gd [.slice A l.length c, .bool dn, .int .i64 fu, .int .i64 fa] 27] := ⟨qhK, qaa.eG.eG⟩
     have k18 := fun j => qaa.cell (g := g12) aP j
     have f18 := fun j => qaa.frozen (g := g12) aP j
     refine fE (a' := ?_) ?_ ?_
     rotate_left
     ·simp only [DY, Act.put, zA, zZ, zS]
      rfl
     refine laS (i := 6) (N := none) rfl rfl (by kernel_rfl) (by decide) (fun K hK => ?_)
     refine wG (w1 := ?_) (by rfl) rfl ?_ ?_
     rotate_left
     ·go_simp
      rfl
     refine hK.out _ _ ?_
     clear hK K
     refine iT (by kernel_rfl) ?_
     refine qI (rs := [box g12 [.slice A1 R.l.length c1, .bool R.dn, .int .i64 R.fu, .int .i64 R.fa, .int .i64 R.size, .int .u64 R.fr, .int .u64 R.nx, .bool R.br, .slice A7 es.length c7, .int .i64 most] 33, row k41 41 (.slice A7 (es).length c7) es, box gb [.slice A1 R.l.length c1, .bool R.dn, .int .i64 R.fu, .int .i64 R.fa, .int .i64 R.size, .int .u64 R.fr, .int .u64 R.nx, .bool R.br] 30, row k67 67 (.slice A1 (R.l).length c1) R.l, row k62 62 (.slice A2 (rs).length c2) rs, box gz [.slice none 0 0, .bool false, .int .i64 0, .int .i64 0, .int .i64 0, .int .u64 0, .int .u64 0, .bool false, .slice none 0 0, .int .i64 0] 33, box gd [.slice A l.length c, .bool dn, .int .i64 fu, .int .i64 fa] 27]) (Sep.set0 (Sep.set0 (Sep.set0 (Sep.set0 (Sep.set0 (Sep.set0 (Sep.set0 (Sep.set0 (Sep.set0 (Sep.set0 qaa 0 (.slice A1 R.l.length c1) rfl) 1 (.bool R.dn) rfl) 2 (.int .i64 R.fu) rfl) 3 (.int .i64 R.fa) rfl) 4 (.int .i64 R.size) rfl) 5 (.int .u64 R.fr) rfl) 6 (.int .u64 R.nx) rfl) 7 (.bool R.br) rfl) 8 (.slice A7 es.length c7) rfl) 9 (.int .i64 most) rfl) ?_
     clear qaa k18 f18
     intro wd9 n_
     clear H c_b z_b c_z z_z c_d
     have H := n_
     clear n_
     have c_k := H.out.cell (g := g12) aP
     have c_b := H.out.cell (g := gb) mem2
     have z_b := H.out.frozen (g := gb) mem2
     have c_z := H.out.cell (g := gz) dM
     have z_z := H.out.frozen (g := gz) dM
     have c_d := H.out.cell (g := gd) jL
     by_cases h24 : 1024 < es.length
     ·
      have qhL : (1024 : Int) < (es.length : Int) := by omega
      have hOV := HOV.out
      rw [if_pos h24] at hOV
      go_wp2_with (first
 |((with_reducible refine aV (t := 33) (p := 6) rfl ?_);
   refine bH (rs1 := [box g12 [.slice A1 R.l.length c1, .bool R.dn, .int .i64 R.fu, .int .i64 R.fa, .int .i64 R.size, .int .u64 R.fr, .int .u64 R.nx, .bool R.br, .slice A7 es.length c7, .int .i64 most] 33, row k41 41 (.slice A7 (es).length c7) es, box gb [.slice A1 R.l.length c1, .bool R.dn, .int .i64 R.fu, .int .i64 R.fa, .int .i64 R.size, .int .u64 R.fr, .int .u64 R.nx, .bool R.br] 30, row k67 67 (.slice A1 (R.l).length c1) R.l, row k62 62 (.slice A2 (rs).length c2) rs, box gz [.slice none 0 0, .bool false, .int .i64 0, .int .i64 0, .int .i64 0, .int .u64 0, .int .u64 0, .bool false, .slice none 0 0, .int .i64 0] 33, box gd [.slice A l.length c, .bool dn, .int .i64 fu, .int .i64 fa] 27]) rfl (t := 33) (p := 6) rfl rfl ?hr (H1 := (Sep.gY (Sep.gY (Sep.gY (Sep.gY (Sep.gY (Sep.gY (Sep.gY (Sep.gY (Sep.gY (Sep.gY H.out 0 (.slice none 0 0) rfl) 1 (.bool false) rfl) 2 (.int .i64 0) rfl) 3 (.int .i64 0) rfl) 4 (.int .i64 0) rfl) 5 (.int .u64 0) rfl) 6 (.int .u64 0) rfl) 7 (.bool false) rfl) 8 (.slice none 0 0) rfl) 9 (.int .i64 0) rfl)) ?_;
   (case hr => first | (go_simp; done) | (go_simp; rfl));
   intro ED n_;
   clear H c_k c_b z_b c_z z_z c_d;
   have H := n_;
   clear n_;
   have c_k := H.out.cell (g := g12) aP;
   have c_b := H.out.cell (g := gb) mem2;
   have z_b := H.out.frozen (g := gb) mem2;
   have c_z := H.out.cell (g := gz) dM;
   have z_z := H.out.frozen (g := gz) dM;
   have c_d := H.out.cell (g := gd) jL)
 |fail)
      refine bodyPost_ret (dH (rs := [.cell 6 33, .tmp 7]) rfl (by simp) (.cell gz 33 _ _ _ rfl (H.out.jF (g := gz) dM) Tryz.underlying33 rfl info33 (.tmp .nil))) rfl ?_
      subst hOV
      exact ⟨none, 0, none, 0, rfl, ⟨Sep.eU (Sep.eU (Sep.eG (Sep.drop1 (Sep.drop2 (Sep.iJ (Sep.lC (Sep.sQ (Sep.CP H.out))))))))⟩⟩
     ·
      have qhL : ¬ (1024 : Int) < (es.length : Int) := by omega
      have hOV := HOV.out
      rw [if_neg h24] at hOV
      go_wp2_with (first
 |((with_reducible refine aV (t := 33) (p := 6) rfl ?_);
   refine bH (rs1 := [box g12 [.slice A1 R.l.length c1, .bool R.dn, .int .i64 R.fu, .int .i64 R.fa, .int .i64 R.size, .int .u64 R.fr, .int .u64 R.nx, .bool R.br, .slice A7 es.length c7, .int .i64 most] 33, row k41 41 (.slice A7 (es).length c7) es, box gb [.slice A1 R.l.length c1, .bool R.dn, .int .i64 R.fu, .int .i64 R.fa, .int .i64 R.size, .int .u64 R.fr, .int .u64 R.nx, .bool R.br] 30, row k67 67 (.slice A1 (R.l).length c1) R.l, row k62 62 (.slice A2 (rs).length c2) rs, box gz [.slice A1 R.l.length c1, .bool R.dn, .int .i64 R.fu, .int .i64 R.fa, .int .i64 R.size, .int .u64 R.fr, .int .u64 R.nx, .bool R.br, .slice A7 es.length c7, .int .i64 most] 33, box gd [.slice A l.length c, .bool dn, .int .i64 fu, .int .i64 fa] 27]) rfl (t := 33) (p := 6) rfl rfl ?hr (H1 := (Sep.gY (Sep.gY (Sep.gY (Sep.gY (Sep.gY (Sep.gY (Sep.gY (Sep.gY (Sep.gY (Sep.gY H.out 0 (.slice A1 R.l.length c1) rfl) 1 (.bool R.dn) rfl) 2 (.int .i64 R.fu) rfl) 3 (.int .i64 R.fa) rfl) 4 (.int .i64 R.size) rfl) 5 (.int .u64 R.fr) rfl) 6 (.int .u64 R.nx) rfl) 7 (.bool R.br) rfl) 8 (.slice A7 es.length c7) rfl) 9 (.int .i64 most) rfl)) ?_;
   (case hr => first | (go_simp; done) | (go_simp; rfl));
   intro NJ n_;
   clear H c_k c_b z_b c_z z_z c_d;
   have H := n_;
   clear n_;
   have c_k := H.out.cell (g := g12) aP;
   have c_b := H.out.cell (g := gb) mem2;
   have z_b := H.out.frozen (g := gb) mem2;
   have c_z := H.out.cell (g := gz) dM;
   have z_z := H.out.frozen (g := gz) dM;
   have c_d := H.out.cell (g := gd) jL)
 |fail)
      refine bodyPost_ret (dH (rs := [.cell 6 33, .tmp 7]) rfl (by simp) (.cell gz 33 _ _ _ rfl (H.out.jF (g := gz) dM) Tryz.underlying33 rfl info33 (.tmp .nil))) rfl ?_
      subst hOV
      exact ⟨A1, c1, A7, c7, rfl, ⟨(Sep.iW (Sep.eG (Sep.drop2 (Sep.lC (Sep.sQ (Sep.CP H.out))))))⟩⟩
    ·
     cases hbr : R.br
     ·
      have hOV : O = (Qz, e) := by rw [HO.out, pK, if_pos HOK.out, if_neg HM.out, HOF.out]; simp only; rw [if_neg hz, hbr, if_neg (by simp)]
      go_wp2_with (first
 |((with_reducible refine aU (N := 9) rfl ?_);
   refine bK rfl H (cs := [.slice none 0 0, .bool false, .int .i64 0, .int .i64 0, .int .i64 0, .int .u64 0, .int .u64 0, .bool false]) (t := 30) ?hr ?_;
   (case hr => first | (go_simp; done) | (go_simp; rfl));
   intro gb JQ n_;
   simp only [Act.put, zA, zZ, zS];
   clear H c_z z_z c_d;
   have H := n_;
   clear n_;
   have c_b := H.out.cell (g := gb) aP;
   have z_b := H.out.frozen (g := gb) aP;
   have c_z := H.out.cell (g := gz) mem3;
   have z_z := H.out.frozen (g := gz) mem3;
   have c_d := H.out.cell (g := gd) bT)
 |((with_reducible refine aV (t := 30) (p := 9) rfl ?_);
   refine bH (rs1 := [box gb [.slice A1 R.l.length c1, .bool R.dn, .int .i64 R.fu, .int .i64 R.fa, .int .i64 R.size, .int .u64 R.fr, .int .u64 R.nx, .bool false] 30, row k67 67 (.slice A1 (R.l).length c1) R.l, row k62 62 (.slice A2 (rs).length c2) rs, box gz [.slice none 0 0, .bool false, .int .i64 0, .int .i64 0, .int .i64 0, .int .u64 0, .int .u64 0, .bool false, .slice none 0 0, .int .i64 0] 33, box gd [.slice A l.length c, .bool dn, .int .i64 fu, .int .i64 fa] 27]) rfl (t := 30) (p := 9) rfl rfl ?hr (H1 := (Sep.set0 (Sep.set0 (Sep.set0 (Sep.set0 (Sep.set0 (Sep.set0 (Sep.set0 (Sep.set0 H.out 0 (.slice A1 R.l.length c1) rfl) 1 (.bool R.dn) rfl) 2 (.int .i64 R.fu) rfl) 3 (.int .i64 R.fa) rfl) 4 (.int .i64 R.size) rfl) 5 (.int .u64 R.fr) rfl) 6 (.int .u64 R.nx) rfl) 7 (.bool false) rfl)) ?_;
   (case hr => first | (go_simp; done) | (go_simp; rfl));
   intro JR n_;
   clear H c_b z_b c_z z_z c_d;
   have H := n_;
   clear n_;
   have c_b := H.out.cell (g := gb) aP;
   have z_b := H.out.frozen (g := gb) aP;
   have c_z := H.out.cell (g := gz) mem3;
   have z_z := H.out.frozen (g := gz) mem3;
   have c_d := H.out.cell (g := gd) bT)
 |((with_reducible refine aV (t := 33) (p := 6) rfl ?_);
   refine bH (rs1 := [box gb [.slice A1 R.l.length c1, .bool R.dn, .int .i64 R.fu, .int .i64 R.fa, .int .i64 R.size, .int .u64 R.fr, .int .u64 R.nx, .bool false] 30, row k67 67 (.slice A1 (R.l).length c1) R.l, row k62 62 (.slice A2 (rs).length c2) rs, box gz [.slice none 0 0, .bool false, .int .i64 0, .int .i64 0, .int .i64 0, .int .u64 0, .int .u64 0, .bool false, .slice none 0 0, .int .i64 0] 33, box gd [.slice A l.length c, .bool dn, .int .i64 fu, .int .i64 fa] 27]) rfl (t := 33) (p := 6) rfl rfl ?hr (H1 := (Sep.dY (Sep.dY (Sep.dY (Sep.dY (Sep.dY (Sep.dY (Sep.dY (Sep.dY (Sep.dY (Sep.dY H.out 0 (.slice none 0 0) rfl) 1 (.bool false) rfl) 2 (.int .i64 0) rfl) 3 (.int .i64 0) rfl) 4 (.int .i64 0) rfl) 5 (.int .u64 0) rfl) 6 (.int .u64 0) rfl) 7 (.bool false) rfl) 8 (.slice none 0 0) rfl) 9 (.int .i64 0) rfl)) ?_;
   (case hr => first | (go_simp; done) | (go_simp; rfl));
   intro TQ n_;
   clear H c_b z_b c_z z_z c_d;
   have H := n_;
   clear n_;
   have c_b := H.out.cell (g := gb) aP;
   have z_b := H.out.frozen (g := gb) aP;
   have c_z := H.out.cell (g := gz) mem3;
   have z_z := H.out.frozen (g := gz) mem3;
   have c_d := H.out.cell (g := gd) bT)
 |fail)
      refine bodyPost_ret (dH (rs := [.cell 6 33, .tmp 7]) rfl (by simp) (.cell gz 33 _ _ _ rfl (H.out.jF (g := gz) mem3) Tryz.underlying33 rfl info33 (.tmp .nil))) rfl ?_
      subst hOV
      exact ⟨none, 0, none, 0, rfl, ⟨Sep.eU (Sep.eU (Sep.eG (Sep.drop1 (Sep.drop2 (Sep.iJ (Sep.lC H.out))))))⟩⟩
     ·
      have hOV : O = (⟨R, [], most⟩, e) := by rw [HO.out, pK, if_pos HOK.out, if_neg HM.out, HOF.out]; simp only; rw [if_neg hz, hbr, if_pos rfl]
      go_wp2_with (first
 |((with_reducible refine aU (N := 9) rfl ?_);
   refine bK rfl H (cs := [.slice none 0 0, .bool false, .int .i64 0, .int .i64 0, .int .i64 0, .int .u64 0, .int .u64 0, .bool false]) (t := 30) ?hr ?_;
   (case hr => first | (go_simp; done) | (go_simp; rfl));
   intro gb KR n_;
   simp only [Act.put, zA, zZ, zS];
   clear H c_z z_z c_d;
   have H := n_;
   clear n_;
   have c_b := H.out.cell (g := gb) aP;
   have z_b := H.out.frozen (g := gb) aP;
   have c_z := H.out.cell (g := gz) mem3;
   have z_z := H.out.frozen (g := gz) mem3;
   have c_d := H.out.cell (g := gd) bT)
 |((with_reducible refine aV (t := 30) (p := 9) rfl ?_);
   refine bH (rs1 := [box gb [.slice A1 R.l.length c1, .bool R.dn, .int .i64 R.fu, .int .i64 R.fa, .int .i64 R.size, .int .u64 R.fr, .int .u64 R.nx, .bool true] 30, row k67 67 (.slice A1 (R.l).length c1) R.l, row k62 62 (.slice A2 (rs).length c2) rs, box gz [.slice none 0 0, .bool false, .int .i64 0, .int .i64 0, .int .i64 0, .int .u64 0, .int .u64 0, .bool false, .slice none 0 0, .int .i64 0] 33, box gd [.slice A l.length c, .bool dn, .int .i64 fu, .int .i64 fa] 27]) rfl (t := 30) (p := 9) rfl rfl ?hr (H1 := (Sep.set0 (Sep.set0 (Sep.set0 (Sep.set0 (Sep.set0 (Sep.set0 (Sep.set0 (Sep.set0 H.out 0 (.slice A1 R.l.length c1) rfl) 1 (.bool R.dn) rfl) 2 (.int .i64 R.fu) rfl) 3 (.int .i64 R.fa) rfl) 4 (.int .i64 R.size) rfl) 5 (.int .u64 R.fr) rfl) 6 (.int .u64 R.nx) rfl) 7 (.bool true) rfl)) ?_;
   (case hr => first | (go_simp; done) | (go_simp; rfl));
   intro ZL n_;
   clear H c_b z_b c_z z_z c_d;
   have H := n_;
   clear n_;
   have c_b := H.out.cell (g := gb) aP;
   have z_b := H.out.frozen (g := gb) aP;
   have c_z := H.out.cell (g := gz) mem3;
   have z_z := H.out.frozen (g := gz) mem3;
   have c_d := H.out.cell (g := gd) bT)
 |((with_reducible refine aV (t := 33) (p := 6) rfl ?_);
   refine bH (rs1 := [box gb [.slice A1 R.l.length c1, .bool R.dn, .int .i64 R.fu, .int .i64 R.fa, .int .i64 R.size, .int .u64 R.fr, .int .u64 R.nx, .bool true] 30, row k67 67 (.slice A1 (R.l).length c1) R.l, row k62 62 (.slice A2 (rs).length c2) rs, box gz [.slice A1 R.l.length c1, .bool R.dn, .int .i64 R.fu, .int .i64 R.fa, .int .i64 R.size, .int .u64 R.fr, .int .u64 R.nx, .bool true, .slice none 0 0, .int .i64 most] 33, box gd [.slice A l.length c, .bool dn, .int .i64 fu, .int .i64 fa] 27]) rfl (t := 33) (p := 6) rfl rfl ?hr (H1 := (Sep.dY (Sep.dY (Sep.dY (Sep.dY (Sep.dY (Sep.dY (Sep.dY (Sep.dY (Sep.dY (Sep.dY H.out 0 (.slice A1 R.l.length c1) rfl) 1 (.bool R.dn) rfl) 2 (.int .i64 R.fu) rfl) 3 (.int .i64 R.fa) rfl) 4 (.int .i64 R.size) rfl) 5 (.int .u64 R.fr) rfl) 6 (.int .u64 R.nx) rfl) 7 (.bool true) rfl) 8 (.slice none 0 0) rfl) 9 (.int .i64 most) rfl)) ?_;
   (case hr => first | (go_simp; done) | (go_simp; rfl));
   intro qce n_;
   clear H c_b z_b c_z z_z c_d;
   have H := n_;
   clear n_;
   have c_b := H.out.cell (g := gb) aP;
   have z_b := H.out.frozen (g := gb) aP;
   have c_z := H.out.cell (g := gz) mem3;
   have z_z := H.out.frozen (g := gz) mem3;
   have c_d := H.out.cell (g := gd) bT)
 |fail)
      refine bodyPost_ret (dH (rs := [.cell 6 33, .tmp 7]) rfl (by simp) (.cell gz 33 _ _ _ rfl (H.out.jF (g := gz) mem3) Tryz.underlying33 rfl info33 (.tmp .nil))) rfl ?_
      subst hOV
      refine ⟨A1, c1, none, 0, ?_, ⟨Sep.iW (Sep.eU (Sep.eG (Sep.drop2 (Sep.iJ (Sep.lC H.out)))))⟩⟩
      simp only [qc, lgc, hbr]
      rfl
 ·
  refine ((dW.calls A c l dn fu fa 6 _ (H.out.came HRp.out) HCp.out (by rw [dW.f, if_neg hok])).mono ?_)
  rintro e qcf ⟨rfl, hb_⟩
  have n_ : aC (Sep w qcf [box gz [.slice none 0 0, .bool false, .int .i64 0, .int .i64 0, .int .i64 0, .int .u64 0, .int .u64 0, .bool false, .slice none 0 0, .int .i64 0] 33, box gd [.slice A l.length c, .bool dn, .int .i64 fu, .int .i64 fa] 27]) := ⟨H.out.step hb_⟩
  clear H c_z z_z c_d
  have H := n_
  clear n_
  have c_z := H.out.cell (g := gz) aP
  have z_z := H.out.frozen (g := gz) aP
  have c_d := H.out.cell (g := gd) mem1
  clear hb_
  have hOV : O = (Qz, 6) := by rw [HO.out, pK, if_neg hok]
  go_wp2_with (first
 |((with_reducible refine aV (t := 33) (p := 6) rfl ?_);
   refine bH (rs1 := [box gz [.slice none 0 0, .bool false, .int .i64 0, .int .i64 0, .int .i64 0, .int .u64 0, .int .u64 0, .bool false, .slice none 0 0, .int .i64 0] 33, box gd [.slice A l.length c, .bool dn, .int .i64 fu, .int .i64 fa] 27]) rfl (t := 33) (p := 6) rfl rfl ?hr (H1 := (Sep.set0 (Sep.set0 (Sep.set0 (Sep.set0 (Sep.set0 (Sep.set0 (Sep.set0 (Sep.set0 (Sep.set0 (Sep.set0 H.out 0 (.slice none 0 0) rfl) 1 (.bool false) rfl) 2 (.int .i64 0) rfl) 3 (.int .i64 0) rfl) 4 (.int .i64 0) rfl) 5 (.int .u64 0) rfl) 6 (.int .u64 0) rfl) 7 (.bool false) rfl) 8 (.slice none 0 0) rfl) 9 (.int .i64 0) rfl)) ?_;
   (case hr => first | (go_simp; done) | (go_simp; rfl));
   intro qdH n_;
   clear H c_z z_z c_d;
   have H := n_;
   clear n_;
   have c_z := H.out.cell (g := gz) aP;
   have z_z := H.out.frozen (g := gz) aP;
   have c_d := H.out.cell (g := gd) mem1)
 |fail)
  refine bodyPost_ret (dH (rs := [.cell 6 33, .tmp 7]) rfl (by simp) (.cell gz 33 _ _ _ rfl (H.out.jF (g := gz) aP) Tryz.underlying33 rfl info33 (.tmp .nil))) rfl ?_
  subst hOV
  exact ⟨none, 0, none, 0, rfl, ⟨Sep.eU (Sep.eU (Sep.eG (Sep.drop1 H.out)))⟩⟩
theorem U6 (s : ByteArray) (k : Nat) : bt s (k : Int) = ((((byt s)[k]?).map UInt8.toNat).getD 0 : Nat) := by
 unfold bt
 simp only [Int.toNat_natCast]
 split
 ·rename_i h
  have h2 : k < (byt s).length := by rw [dK]; exact h
  rw [List.getElem?_eq_getElem h2]
  rfl
 ·rename_i h
  rw [List.getElem?_eq_none (by rw [dK]; omega)]
  rfl
theorem O6 (data : ByteArray) : byt (P80 ++ data) = 80 :: byt data := by rw [AQ]; rfl
theorem qbC (data : ByteArray) : bt (P80 ++ data) 0 = 80 := by
 have := U6 (P80 ++ data) 0
 rw [O6] at this
 exact this
theorem KC (data : ByteArray) : (P80 ++ data).size = data.size + 1 := by
 rw [← dK, O6, List.length_cons, dK]
theorem MG (data : ByteArray) : pJ (P80 ++ data) = none := by
 rw [pJ, if_neg]
 rintro ⟨_, h⟩
 rw [qbC] at h
 omega
theorem qab (data : ByteArray) : qbu (P80 ++ data) := by
 refine ⟨fun h => ?_, qbC data⟩
 have := congrArg ByteArray.size h
 rw [KC] at this
 cases this
theorem qbD (data : ByteArray) : (P80 ++ data).extract 1 (P80 ++ data).size = data := by
 apply qE
 rw [sS, O6, KC, List.take_of_length_le (by rw [List.length_cons, dK]; omega)]
 rfl
theorem DK (a b : List S62) (n : Int) : kF (a ++ b) n = kF a n + kF b n := by
 unfold kF
 rw [List.filter_append, List.length_append]
theorem FT (m : Int) (data : ByteArray) : ∀ rs : List S62, dJ (rs ++ [⟨m, P80 ++ data⟩]) = dJ rs ++ [⟨m, data, false⟩]
 | [] => by
  show dJ [⟨m, P80 ++ data⟩] = [⟨m, data, false⟩]
  rw [dJ, if_pos ⟨MG data, qab data, rfl⟩, qbD]
  rfl
 | r :: rest => by
  have h1 : kF (rest ++ [⟨m, P80 ++ data⟩]) r.f0 = kF rest r.f0 := by
   rw [DK, vV, if_neg (by rw [MG]; simp)]
   rfl
  rw [List.cons_append, dJ, dJ, h1, FT m data rest]
  split <;> rfl
theorem FU {m q : Int} {s : ByteArray} (h : pJ s = some q) : ∀ rs : List S62, dJ (rs ++ [⟨m, s⟩]) = (dJ rs).filter fun x => decide (x.f0 ≠ q)
 | [] => by
  show dJ [⟨m, s⟩] = []
  rw [dJ, if_neg (fun g => by have g1 := g.1; rw [h] at g1; cases g1)]
  rfl
 | r :: rest => by
  have hg : kF (rest ++ [⟨m, s⟩]) r.f0 = if r.f0 = q then kF rest r.f0 + 1 else kF rest r.f0 := by
   rw [DK, vV]
   show kF rest r.f0 + (if pJ s = some r.f0 then 0 + 1 else 0) = _
   rw [h]
   by_cases hq : r.f0 = q
   ·rw [if_pos hq, if_pos (by rw [hq])]
   ·rw [if_neg hq, if_neg (fun g => hq (Option.some.inj g).symm)]
    rfl
  rw [List.cons_append, dJ, dJ, FU h rest, hg]
  by_cases hq : r.f0 = q
  ·rw [if_pos hq, if_neg (fun g => by have := g.2.2; omega)]
   split
   ·rw [List.filter_cons, if_neg (by simp [hq])]
   ·rfl
  ·rw [if_neg hq]
   by_cases hc : pJ r.f1 = none ∧ qbu r.f1 ∧ kF rest r.f0 = 0
   ·rw [if_pos hc, if_pos hc, List.filter_cons, if_pos (by simp [hq])]
   ·rw [if_neg hc, if_neg hc]
theorem yX (b : List S62) : ∀ a : List S62, ∃ X, dJ (a ++ b) = X ++ dJ b ∧ ∀ x ∈ X, ∃ r ∈ a, r.f0 = x.f0
 | [] => ⟨[], rfl, by simp⟩
 | r :: a => by
  obtain ⟨X, h1, h2⟩ := yX b a
  rw [List.cons_append, dJ, h1]
  split
  ·refine ⟨_ :: X, rfl, fun x hx => ?_⟩
   rcases List.mem_cons.1 hx with rfl | hx
   ·exact ⟨r, List.mem_cons_self .., rfl⟩
   ·obtain ⟨s, hs, e⟩ := h2 x hx
    exact ⟨s, List.mem_cons_of_mem _ hs, e⟩
  ·refine ⟨X, rfl, fun x hx => ?_⟩
   obtain ⟨s, hs, e⟩ := h2 x hx
   exact ⟨s, List.mem_cons_of_mem _ hs, e⟩
theorem MH {nx : Int} : ∀ {l : List S41} {least EL : Int}, EL ≤ least → oH nx least l → oH nx EL l
 | [], _, _, _, _ => trivial
 | x :: r, least, EL, h, g => ⟨g.1, by have := g.2.1; omega, g.2.2.1, g.2.2.2⟩
theorem O7 {nx nx' : Int} (h : nx ≤ nx') : ∀ {l : List S41} {least : Int}, oH nx least l → oH nx' least l
 | [], _, _ => trivial
 | x :: r, least, g => ⟨g.1, g.2.1, by have := g.2.2.1; omega, O7 h g.2.2.2⟩
theorem extract_size (s : ByteArray) : (s.extract 1 s.size).size = s.size - 1 := by
 simp only [ByteArray.size_extract]
 omega
theorem DL {nx : Int} : ∀ (ds : List gB.Bytes) (n : Nat), ((n + ds.length : Nat) : Int) ≤ nx → (∀ d ∈ ds, d.length ≤ 65536) → oH nx (n : Int) (dJ (bV ds n))
 | [], n, _, _ => trivial
 | d :: ds, n, h, hs => by
  simp only [List.length_cons] at h
  have ih := DL ds (n + 1) (by rw [show n + 1 + ds.length = n + (ds.length + 1) by omega]; exact h) (fun x hx => hs x (List.mem_cons_of_mem _ hx))
  rw [bV, dJ]
  split
  ·rename_i hc
   have hd := hs d (List.mem_cons_self ..)
   have hz : (⟨d.toArray⟩ : ByteArray).size = d.length := by rw [← dK, pR]
   refine ⟨?_, Int.le_refl _, by show (n : Int) < nx; omega, ?_⟩
   ·show ((⟨d.toArray⟩ : ByteArray).extract 1 (⟨d.toArray⟩ : ByteArray).size).size < 65536
    rw [extract_size, hz]
    have : d.length ≠ 0 := fun h0 => hc.2.1.1 (ByteArray.size_eq_zero_iff.1 (by rw [hz]; exact h0))
    omega
   ·exact ih
  ·exact MH (by omega) ih
theorem FV : ∀ (n : Nat) (a : List Pl) (ds : List gB.Bytes) (m : Nat), chain SU n a ds m → ∀ d ∈ ds, d.length ≤ 65536
 | n, [], ds, m, h, d, hd => by obtain ⟨rfl, _⟩ := h; cases hd
 | n, p :: r, ds, m, h, d, hd => by
  obtain ⟨h1, d1, d2, rfl, h3, h4⟩ := h
  rcases List.mem_append.1 hd with hd | hd
  ·exact (tC h3).2 d hd
  ·exact FV _ r d2 m h4 d hd
def strip (l : List S41) : List S41 := l.map fun x => ⟨x.f0, x.f1, false⟩
theorem qac (l : List S41) : (strip l).length = l.length := List.length_map ..
theorem vX {nx : Int} : ∀ {l : List S41} {least : Int}, oH nx least (strip l) ↔ oH nx least l
 | [], _ => Iff.rfl
 | x :: r, least => by
  have ih := vX (nx := nx) (l := r) (least := x.f0 + 1)
  exact ⟨fun h => ⟨h.1, h.2.1, h.2.2.1, ih.1 h.2.2.2⟩, fun h => ⟨h.1, h.2.1, h.2.2.1, ih.2 h.2.2.2⟩⟩
structure QW (Q : Qu) (ds : List gB.Bytes) (n m : Nat) : Prop where
 wf : WF Q.L ds n m
 sy : Sy Q.L.l
 fu : Q.L.fu = -1
 fa : Q.L.fa = -1
 lo : 1 ≤ Q.most
 hi : Q.most ≤ 1024
 len : Q.es.length ≤ 1024
 es : strip Q.es = dJ (bV ds n)
theorem QW.oks {Q : Qu} {ds : List gB.Bytes} {n m : Nat} (h : QW Q ds n m) : oH Q.L.nx Q.L.fr Q.es := by
 rw [← vX, h.es, h.wf.fr]
 refine DL ds n ?_ (FV n _ ds m h.wf.ch)
 rw [h.wf.nx, pU SU n _ ds m h.wf.ch]
 exact Int.le_refl _
theorem QW.ok {Q : Qu} {ds : List gB.Bytes} {n m : Nat} (h : QW Q ds n m) : okQ Q := ⟨h.wf.okL, h.lo, h.hi, h.len, h.oks⟩
theorem QW.fr0 {Q : Qu} {ds : List gB.Bytes} {n m : Nat} (h : QW Q ds n m) : 0 ≤ Q.L.fr := by rw [h.wf.fr]; omega
theorem QW.nx0 {Q : Qu} {ds : List gB.Bytes} {n m : Nat} (h : QW Q ds n m) : 0 ≤ Q.L.nx ∧ Q.L.nx < 18446744073709551616 := by
 have h1 := h.wf.nx
 have h2 := h.wf.top
 unfold most at h2
 omega
theorem xQ {Q : Qu} (h : okQ Q) (hb : Q.L.br = false) (D : Qu × Int) : jU Q D = D := by rw [jU, if_pos h, hb, if_neg (by simp)]
theorem qbE {Q : Qu} (h : okQ Q) (hb : Q.L.br = true) (D : Qu × Int) : jU Q D = (Q, 6) := by rw [jU, if_pos h, hb, if_pos rfl]
theorem uS {Q : Qu} (h : ¬ okQ Q) (D : Qu × Int) : jU Q D = (Qz, 6) := by rw [jU, if_neg h]
theorem U7 {l : List S67} {es : List gB.Bytes} {n : Nat} {size most : Int} (h : Back l es n) (h0 : 1 ≤ size) (h1 : size ≤ 262144) (m0 : 1 ≤ most) (m1 : most ≤ 1024) (hl : (dJ (bV es n)).length ≤ 1024) :
  ∃ L, pK l false (-1) (-1) size most = (⟨L, dJ (bV es n), most⟩, 0) ∧ WF L es n (n + es.length) ∧ L.fu = -1 ∧ L.fa = -1 ∧ L.size = size := by
 obtain ⟨M, o1, o2, o3, o4, o5⟩ := h.opens h0 h1
 refine ⟨M, ?_, o2, o3, o4, o5⟩
 rw [pK, if_pos h.right, if_neg (by omega), o1]
 simp only
 rw [if_pos trivial, if_neg (by omega)]
theorem xR (q : Int) (k : Nat) (hk : k < 8) : bt (kM q) ((k + 1 : Nat) : Int) = byteAt q k := by
 have h1 : (byt (kM q))[k + 1]? = some (UInt8.ofNat (byteAt q k).toNat) := by
  rw [kM, CX, qcz, qW, List.map_cons, List.getElem?_cons_succ, List.getElem?_map, List.getElem?_map, List.getElem?_range hk]
  rfl
 have h2 : 0 ≤ byteAt q k ∧ byteAt q k < 256 := by unfold byteAt; omega
 rw [U6, h1]
 simp only [Option.map_some, Option.getD_some, UInt8.toNat_ofNat']
 omega
theorem qad (q : Int) : bt (kM q) 0 = 65 := by
 have h := U6 (kM q) 0
 rw [kM, CX, qcz, List.map_cons] at h
 rw [kM]
 exact h
theorem qae {q : Int} (h0 : 0 ≤ q) (h1 : q < 18446744073709551616) : pJ (kM q) = some q := by
 rw [pJ, if_pos ⟨LU q, qad q⟩]
 have a0 : bt (kM q) ((8 - 7 : Nat) : Int) = byteAt q 0 := xR q 0 (by decide)
 have a1 : bt (kM q) ((8 - 6 : Nat) : Int) = byteAt q 1 := xR q 1 (by decide)
 have a2 : bt (kM q) ((8 - 5 : Nat) : Int) = byteAt q 2 := xR q 2 (by decide)
 have a3 : bt (kM q) ((8 - 4 : Nat) : Int) = byteAt q 3 := xR q 3 (by decide)
 have a4 : bt (kM q) ((8 - 3 : Nat) : Int) = byteAt q 4 := xR q 4 (by decide)
 have a5 : bt (kM q) ((8 - 2 : Nat) : Int) = byteAt q 5 := xR q 5 (by decide)
 have a6 : bt (kM q) ((8 - 1 : Nat) : Int) = byteAt q 6 := xR q 6 (by decide)
 have a7 : bt (kM q) ((8 - 0 : Nat) : Int) = byteAt q 7 := xR q 7 (by decide)
 have e : nvF (kM q) 8 = q := by
  rw [nvF, nvF, nvF, nvF, nvF, nvF, nvF, nvF, nvF, a0, a1, a2, a3, a4, a5, a6, a7]
  unfold byteAt
  rw [show (2 : Int) ^ (8 * 0) = 1 from rfl, show (2 : Int) ^ (8 * 1) = 256 from rfl, show (2 : Int) ^ (8 * 2) = 65536 from rfl, show (2 : Int) ^ (8 * 3) = 16777216 from rfl, show (2 : Int) ^ (8 * 4) = 4294967296 from rfl, show (2 : Int) ^ (8 * 5) = 1099511627776 from rfl, show (2 : Int) ^ (8 * 6) = 281474976710656 from rfl, show (2 : Int) ^ (8 * 7) = 72057594037927936 from rfl]
  omega
 rw [e]
theorem vY {nx : Int} : ∀ {l : List S41} {least : Int}, oH nx least l → ∀ x ∈ l, least ≤ x.f0
 | [], _, _, x, hx => by cases hx
 | y :: r, least, h, x, hx => by
  obtain ⟨_, h2, _, h4⟩ := h
  rcases List.mem_cons.1 hx with rfl | hx
  ·exact h2
  ·have := vY h4 x hx
   omega
theorem RU {nx nx' : Int} {l : List S41} {least : Int} (h : oH nx least l) : ∀ x ∈ l, rH l nx' ≤ x.f0 := by
 intro x hx
 cases l with
 | nil => cases hx
 | cons y r =>
  rcases List.mem_cons.1 hx with rfl | hx
  ·exact Int.le_refl _
  ·have := vY h.2.2.2 x hx
   show y.f0 ≤ _
   omega
theorem BI {nx : Int} : ∀ {l : List S41} {least : Int} (i : Nat), oH nx least l → oH nx least (l.eraseIdx i)
 | [], _, _, h => h
 | y :: r, least, 0, h => MH (by have := h.2.1; omega) h.2.2.2
 | y :: r, least, i + 1, h => ⟨h.1, h.2.1, h.2.2.1, BI i h.2.2.2⟩
theorem DN {nx q : Int} : ∀ {l : List S41} {least : Int} {i : Nat} {x : S41}, oH nx least l → l[i]? = some x → x.f0 = q → (strip l).filter (fun x => decide (x.f0 ≠ q)) = strip (l.eraseIdx i)
 | [], _, i, x, _, hx, _ => by simp at hx
 | y :: r, least, 0, x, h, hx, hq => by
  obtain rfl : y = x := by simpa using hx
  show ((⟨y.f0, y.f1, false⟩ : S41) :: strip r).filter _ = strip r
  rw [List.filter_cons, if_neg (by simp [hq]), List.filter_eq_self]
  intro z hz
  obtain ⟨z2, hz2, rfl⟩ := List.mem_map.1 hz
  have := vY h.2.2.2 z2 hz2
  simp only [ne_eq, decide_eq_true_eq]
  omega
 | y :: r, least, i + 1, x, h, hx, hq => by
  have hx2 : r[i]? = some x := by simpa using hx
  have h2 := vY h.2.2.2 x (List.mem_of_getElem? hx2)
  show ((⟨y.f0, y.f1, false⟩ : S41) :: strip r).filter _ = (⟨y.f0, y.f1, false⟩ : S41) :: strip (r.eraseIdx i)
  rw [List.filter_cons, if_pos (by simp only [ne_eq, decide_eq_true_eq]; omega), DN h.2.2.2 hx2 hq]
theorem MI (l : List S41) (i : Nat) (x : S41) (b : Bool) (hx : l[i]? = some x) : strip (l.set i ⟨x.f0, x.f1, b⟩) = strip l := by
 unfold strip
 rw [List.map_set]
 apply List.ext_getElem?
 intro k
 by_cases hk : i = k
 ·subst hk
  have hl := (List.getElem?_eq_some_iff.1 hx).1
  rw [List.getElem?_set_self (by rw [List.length_map]; exact hl), List.getElem?_map, hx]
  rfl
 ·rw [List.getElem?_set_ne hk]
theorem qbF (s : ByteArray) (m : Nat) : bV [byt s] m = [⟨(m : Int), s⟩] := by
 show [(⟨(m : Int), ⟨(byt s).toArray⟩⟩ : S62)] = _
 rw [qdW]
theorem RV {Q : Qu} {ds : List gB.Bytes} {n m : Nat} (h : WF Q.L ds n m) (s : ByteArray) : bV (ds ++ [byt s]) n = bV ds n ++ [⟨(m : Int), s⟩] := by
 rw [sW, ← pU SU n _ ds m h.ch, qbF]
theorem QW.put {Q : Qu} {ds : List gB.Bytes} {n m : Nat} {data : ByteArray} (h : QW Q ds n m) (hr : (Q.es.length : Int) < Q.most) (hs : data.size < 65536) (ha : (dG Q.L (P80 ++ data)).2 = 0) :
  ∃ Q', xJ Q data = (Q', 0) ∧ GH Q data = (m : Int) ∧ QW Q' (ds ++ [byt (P80 ++ data)]) n (m + 1) ∧ Q'.es = Q.es ++ [⟨(m : Int), data, false⟩] ∧ Q'.most = Q.most ∧ Q'.L.l.length ≤ Q.L.l.length + 1 ∧ Q'.L.size = Q.L.size := by
 obtain ⟨R, e, hA⟩ : ∃ R e, dG Q.L (P80 ++ data) = (R, e) := ⟨_, _, rfl⟩
 rw [hA] at ha
 obtain rfl : e = 0 := ha
 obtain ⟨w1, w2, w3, _, _⟩ := LX h.wf hA
 obtain ⟨w4, w5⟩ := MC h.wf h.fu h.fa hA
 have hp : xJ Q data = (⟨R, Q.es ++ [⟨(m : Int), data, false⟩], Q.most⟩, 0) := by
  rw [xJ, xQ h.ok h.wf.br, F8, if_pos hr, if_pos hs, hA, if_pos rfl, h.wf.nx]
 refine ⟨_, hp, ?_, ⟨w1, MB h.wf h.sy hA, w4, w5, h.lo, h.hi, ?_, ?_⟩, rfl, rfl, w3, w2⟩
 ·rw [GH, hp, if_pos rfl, h.wf.nx]
 ·have := h.hi
  simp only [List.length_append, List.length_singleton]
  omega
 ·rw [RV h.wf, FT, ← h.es]
  exact List.map_append ..
theorem QW.qeK {Q : Qu} {ds : List gB.Bytes} {n m i : Nat} {x : S41} (h : QW Q ds n m) (hi : sK free Q.es = some i) (hx : Q.es[i]? = some x) :
  lZ Q = (⟨Q.L, Q.es.set i ⟨x.f0, x.f1, true⟩, Q.most⟩, 0) ∧ kR Q = ⟨x.f0, x.f1, true⟩ ∧ QW ⟨Q.L, Q.es.set i ⟨x.f0, x.f1, true⟩, Q.most⟩ ds n m := by
 refine ⟨?_, ?_, ⟨h.wf, h.sy, h.fu, h.fa, h.lo, h.hi, by rw [List.length_set]; exact h.len, by rw [MI _ _ _ _ hx]; exact h.es⟩⟩
 ·rw [lZ, xQ h.ok h.wf.br, sG, hi]
  simp only [GZ, hx]
 ·rw [kR, if_pos ⟨h.ok, h.wf.br⟩, vS, hi]
  simp only [hx]
theorem RX {q : Int} {l : List S41} {i : Nat} (hi : sK (lM q) l = some i) : ∃ x, l[i]? = some x ∧ x.f0 = q ∧ x.f2 = true := by
 obtain ⟨x, h1, h2, _⟩ := xG hi
 refine ⟨x, h1, ?_⟩
 simpa [lM] using h2
theorem QW.ack {Q : Qu} {ds : List gB.Bytes} {n m i : Nat} {q : Int} (h : QW Q ds n m) (hi : sK (lM q) Q.es = some i) (ha : (dG Q.L (kM q)).2 = 0) :
  ∃ Q' ds' n', EI Q q = (Q', 0) ∧ QW Q' ds' n' (m + 1) ∧ Q'.es = Q.es.eraseIdx i ∧ Q'.most = Q.most ∧ Q'.L.size = Q.L.size := by
 obtain ⟨x, hx, hxq, _⟩ := RX hi
 obtain ⟨R, e, hA⟩ : ∃ R e, dG Q.L (kM q) = (R, e) := ⟨_, _, rfl⟩
 rw [hA] at ha
 obtain rfl : e = 0 := ha
 obtain ⟨w1, w2, w3, _, _⟩ := LX h.wf hA
 obtain ⟨w4, w5⟩ := MC h.wf h.fu h.fa hA
 have hs1 := MB h.wf h.sy hA
 have hq := xI h.fr0 h.oks x (List.mem_of_getElem? hx)
 have hnx := h.nx0
 have hnx1 : Q.L.nx ≤ R.nx := by rw [h.wf.nx, w1.nx]; omega
 have hok2 : oH R.nx Q.L.fr (Q.es.eraseIdx i) := O7 hnx1 (BI i h.oks)
 have hfx : rH (Q.es.eraseIdx i) R.nx ≤ R.nx := by
  cases hE : Q.es.eraseIdx i with
  | nil => exact Int.le_refl _
  | cons y r =>
   rw [hE] at hok2
   show y.f0 ≤ _
   have := hok2.2.2.1
   omega
 obtain ⟨R2, d0, d1, k1, k2, k3, k4, k5, k6, k7, k8⟩ := qbB w1 w4 w5 hfx
 have hE : dJ (bV (ds ++ [byt (kM q)]) n) = strip (Q.es.eraseIdx i) := by
  rw [RV h.wf, FU (q := q) (qae (by rw [← hxq]; exact hq.1) (by rw [← hxq]; omega)), ← h.es]
  exact DN h.oks hx hxq
 have hE2 : dJ (bV d1 (n + d0.length)) = strip (Q.es.eraseIdx i) := by
  rw [k3, sW] at hE
  obtain ⟨X, g1, g2⟩ := yX (bV d1 (n + d0.length)) (bV d0 n)
  rw [g1] at hE
  cases X with
  | nil => exact hE
  | cons y X =>
   exfalso
   obtain ⟨r, hr, hry⟩ := g2 y (List.mem_cons_self ..)
   obtain ⟨j, hj⟩ := List.getElem?_of_mem hr
   have h1 := J6 d0 n j r hj
   have h2 := (List.getElem?_eq_some_iff.1 hj).1
   rw [qO] at h2
   have hy : y ∈ strip (Q.es.eraseIdx i) := by rw [← hE]; exact List.mem_append_left _ (List.mem_cons_self ..)
   obtain ⟨y2, hy2, rfl⟩ := List.mem_map.1 hy
   have h3 := RU (nx' := R.nx) hok2 y2 hy2
   have h4 : r.f0 = y2.f0 := hry
   rcases k4 with k4 | k4
   ·subst k4
    cases hr
   ·omega
 refine ⟨⟨R2, Q.es.eraseIdx i, Q.most⟩, d1, n + d0.length, ?_, ⟨k2, k8 hs1, k6, k7, h.lo, h.hi, ?_, hE2.symm⟩, rfl, rfl, k5.trans w2⟩
 ·rw [EI, xQ h.ok h.wf.br, F9, hi]
  simp only [hA, if_true, k1]
 ·have := h.len
  have h9 := List.length_eraseIdx_le Q.es i
  show (Q.es.eraseIdx i).length ≤ 1024
  omega
theorem qdX {size most : Int} (h0 : 1 ≤ size) (h1 : size ≤ 262144) (m0 : 1 ≤ most) (m1 : most ≤ 1024) : QW ⟨L0s size, [], most⟩ [] 1 1 :=
 ⟨qbs h0 h1, fun x hx => (by cases hx), rfl, rfl, m0, m1, by simp, rfl⟩
theorem qaf {size most : Int} (h0 : 1 ≤ size) (h1 : size ≤ 262144) (m0 : 1 ≤ most) (m1 : most ≤ 1024) : pK [] false (-1) (-1) size most = (⟨L0s size, [], most⟩, 0) := by
 rw [pK, if_pos LY, if_neg (by omega), qbt h0 h1]
 simp only
 rw [if_pos trivial, if_neg (by simp [dJ])]
 rfl
theorem QW.reopen {Q : Qu} {ds : List gB.Bytes} {n m : Nat} {size most : Int} (h : QW Q ds n m) (h0 : 1 ≤ size) (h1 : size ≤ 262144) (m0 : 1 ≤ most) (m1 : most ≤ 1024) :
  ∃ L, pK Q.L.l false (-1) (-1) size most = (⟨L, strip Q.es, most⟩, 0) ∧ L.fu = -1 ∧ L.fa = -1 ∧ L.size = size := by
 obtain ⟨L, g1, _, g3, g4, g5⟩ := U7 (most := most) (h.wf.back h.sy) h0 h1 m0 m1 (by rw [← h.es, qac]; exact h.len)
 rw [← h.es] at g1
 exact ⟨L, g1, g3, g4, g5⟩
def okR (Q : Qu) : Prop := 0 ≤ Q.L.fr ∧ 0 ≤ Q.L.nx ∧ Q.L.nx < 18446744073709551616
theorem QW.okR {Q : Qu} {ds : List gB.Bytes} {n m : Nat} (h : QW Q ds n m) : okR Q := ⟨h.fr0, h.nx0.1, h.nx0.2⟩
theorem qdY : ∃ Q0 Q1 Q2 Q3 Q4 Q5, pK [] false (-1) (-1) 100 5 = (Q0, 0) ∧ okR Q0 ∧ xJ Q0 ⟨#[97]⟩ = (Q1, 0) ∧ GH Q0 ⟨#[97]⟩ = 1 ∧ okR Q1 ∧ xJ Q1 ⟨#[98]⟩ = (Q2, 0) ∧ GH Q1 ⟨#[98]⟩ = 2 ∧ okR Q2
  ∧ lZ Q2 = (Q3, 0) ∧ kR Q2 = ⟨1, ⟨#[97]⟩, true⟩ ∧ okR Q3 ∧ EI Q3 1 = (Q4, 0) ∧ pK Q4.L.l Q4.L.dn Q4.L.fu Q4.L.fa 100 5 = (Q5, 0) ∧ Q5.es = [⟨2, ⟨#[98]⟩, false⟩] := by
 have w0 := qdX (size := 100) (most := 5) (by decide) (by decide) (by decide) (by decide)
 have hP : ∀ d : ByteArray, d.size = 1 → (P80 ++ d).size ≤ 65536 := fun d h => by rw [KC, h]; decide
 obtain ⟨R1, a1, _, _⟩ := xP (d := P80 ++ ⟨#[97]⟩) w0.wf rfl rfl (hP _ rfl) (by decide) (by show (0 : Nat) < 64; decide)
 obtain ⟨Q1, p1, s1, w1, e1, m1, l1, z1⟩ := w0.put (data := ⟨#[97]⟩) (by decide) (by decide) (by rw [a1])
 have l1' : Q1.L.l.length ≤ 1 := l1
 obtain ⟨R2, a2, _, _⟩ := xP (d := P80 ++ ⟨#[98]⟩) w1.wf w1.fu w1.fa (hP _ rfl) (by decide) (by omega)
 have m1' : Q1.most = 5 := m1
 have e1' : Q1.es = [⟨1, ⟨#[97]⟩, false⟩] := e1
 obtain ⟨Q2, p2, s2, w2, e2, m2, l2, z2⟩ := w1.put (data := ⟨#[98]⟩) (by rw [m1', e1']; decide) (by decide) (by rw [a2])
 have e2' : Q2.es = [⟨1, ⟨#[97]⟩, false⟩, ⟨2, ⟨#[98]⟩, false⟩] := by rw [e2, e1']; rfl
 obtain ⟨g1, g2, w3⟩ := w2.qeK (i := 0) (x := ⟨1, ⟨#[97]⟩, false⟩) (by rw [e2']; rfl) (by rw [e2']; rfl)
 obtain ⟨Q3, hQ3⟩ : ∃ Q3, Q3 = (⟨Q2.L, Q2.es.set 0 ⟨1, ⟨#[97]⟩, true⟩, Q2.most⟩ : Qu) := ⟨_, rfl⟩
 have e3 : Q3.es = [⟨1, ⟨#[97]⟩, true⟩, ⟨2, ⟨#[98]⟩, false⟩] := by rw [hQ3]; show Q2.es.set 0 _ = _; rw [e2']; rfl
 have l3 : Q3.L.l.length ≤ 2 := by rw [hQ3]; show Q2.L.l.length ≤ 2; omega
 have g1' : lZ Q2 = (Q3, 0) := by rw [hQ3]; exact g1
 have w3' : QW Q3 (([] ++ [byt (P80 ++ ⟨#[97]⟩)]) ++ [byt (P80 ++ ⟨#[98]⟩)]) 1 (1 + 1 + 1) := by rw [hQ3]; exact w3
 obtain ⟨R3, a3, _, _⟩ := xP (d := kM 1) w3'.wf w3'.fu w3'.fa (by rw [LU]; decide) (by decide) (by omega)
 obtain ⟨Q4, ds4, n4, k1, w4, e4, m4, z4⟩ := w3'.ack (i := 0) (q := 1) (by rw [e3]; rfl) (by rw [a3])
 obtain ⟨L5, o5, _⟩ := w4.reopen (size := 100) (most := 5) (by decide) (by decide) (by decide) (by decide)
 refine ⟨⟨L0s 100, [], 5⟩, Q1, Q2, Q3, Q4, ⟨L5, strip Q4.es, 5⟩, qaf (by decide) (by decide) (by decide) (by decide), w0.okR, p1, s1, w1.okR, p2, s2, w2.okR, g1', g2, w3'.okR, k1, ?_, ?_⟩
 ·rw [w4.wf.dn, w4.fu, w4.fa]; exact o5
 ·show strip Q4.es = _
  rw [e4, e3]
  rfl
end Go.Proofs.U
