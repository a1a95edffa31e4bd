import Derived.Test.YtanonhipicoigaaGreatDoorZSai
import Derived.Maps.Own
import Derived.Maps.OwnOps
import Derived.Maps.OwnSet
import Derived.Maps.Views
import Derived.Maps.Keyed
import Derived.Carry
import Derived.Test.YtanonhipicoigaaGreatDoorZSar
import Derived.Test.YtanonhipicoigaaGreatDoorZSag
set_option linter.unusedVariables false
set_option linter.unusedSimpArgs false
set_option maxRecDepth 100000
namespace Go.Proofs.U
open Go.RowKit Go.Proofs.YW.PrintWords Go.Proofs.YW.PrintLast Go.Proofs.YW.PrintMore
attribute [local go_sem] iE iF jG jH gQ gU iJ iK
mutual
def dH.j0 : Nat → ByteArray → Bool → Option (Int × Bool)
 | 0, _, _ => none
 | k + 1, x0, x13 => if x13 = true then (some (0, false)) else (dH.l0 k x0 0 8)
def dH.l0 : Nat → ByteArray → Int → Int → Option (Int × Bool)
 | 0, _, _, _ => none
 | k + 1, x0, x4, x5 => if x5 > 0 then (if 0 ≤ x5 then (if x5 < (x0.size : Int) then (dH.l0 k x0 (Go.bits .or .u64 (IntKind.u64.wrap (x4 * 256)) (IntKind.u64.wrap (bt x0 x5))) (wrap64 (x5 - 1))) else (none)) else (none)) else (some (x4, true))
end
def dH.f (k : Nat) (a0 : ByteArray) : Option (Int × Bool) := if (a0.size : Int) = 9 then (if 0 < (a0.size : Int) then (dH.j0 k a0 ((bt a0 0) != 65)) else (none)) else (dH.j0 k a0 true)
set_option maxHeartbeats 8000000 in
theorem dH.calls (k : Nat) (a0 : ByteArray) (r1 : Int) (r2 : Bool) (w : World) (h : dH.f k a0 = some (r1, r2)) :
    Calls Tryz.prog 98 #[.string a0] w fun e w' => e = .returned (.tuple #[.int .u64 r1, .bool r2]) ∧ eU w w' := by
  have H : (if (a0.size : Int) = 9 then (if 0 < (a0.size : Int) then (dH.j0 k a0 ((bt a0 0) != 65)) else (none)) else (dH.j0 k a0 true)) = some (r1, r2) := h
  clear h
  have HC2 := aA.mk H
  clear H
  go_enter Tryz.func98, Tryz.ntmps98
  go_upto_region 1 with (fail)
  go_cut [13] (fun v13 wc => ∃ (kq : Nat) (dS : Bool), v13 = .bool dS ∧ aA (dH.j0 kq a0 dS = some (r1, r2)) ∧ aA (kq ≤ k) ∧ eU w wc)
  case first =>
    have H := HC2.out
    clear HC2
    by_cases c3 : (a0.size : Int) = 9
    · rw [if_pos c3] at H
      have IV : ((a0.size : Int) == 9) = true := beq_iff_eq.mpr c3
      have SX : ((a0.size : Int) != 9) = false := bne_eq_false_iff_eq.mpr c3
      clear c3
      (first | rw [IV] | (simp only [aH, aI]; rw [IV]) | skip)
      by_cases c4 : 0 < (a0.size : Int)
      · rw [if_pos c4] at H
        have qal : decide (0 < (a0.size : Int)) = true := decide_eq_true c4
        have qfz : decide (0 < a0.size) = true := decide_eq_true (by omega)
        clear c4
        have H' := aA.mk H
        clear H
        have p5 : 0 ≤ (0 : Int) := (by omega)
        have q5 : 0 < a0.size := (by have : (0 : Int) < (a0.size : Int) := of_decide_eq_true (by first | (with_reducible assumption) | assumption); omega)
        have hx5 : ∀ h : 0 < a0.size, ((a0[0]'h).toNat : Int) = bt a0 0 := WC a0 0
        clear p5
        have qi5 : (0 < (a0.size : Int)) = True := eq_true (of_decide_eq_true (by first | (with_reducible assumption) | assumption))
        replace q5 := eq_true q5
        go_wp2
        go_meet
        case rel => exact ⟨_, (((bt a0 0) != 65)), (by first | rfl | (simp; done) | (simp [*]; done)), H', ⟨by first | omega | exact Nat.le_refl _⟩, by repeat (first | exact eU.refl _ | apply eU.step)⟩
      · rw [if_neg c4] at H
        exact absurd H (by simp)
    · rw [if_neg c3] at H
      have IV : ((a0.size : Int) == 9) = false := beq_eq_false_iff_ne.mpr c3
      have SX : ((a0.size : Int) != 9) = true := bne_iff_ne.mpr c3
      (first | rw [IV] | (simp only [aH, aI]; rw [IV]) | skip)
      have H' := aA.mk H
      clear H
      go_wp2
      go_meet
      case rel => exact ⟨_, (true), (by first | rfl | (simp; done) | (simp [*]; done)), H', ⟨by first | omega | exact Nat.le_refl _⟩, by repeat (first | exact eU.refl _ | apply eU.step)⟩
  case rest =>
    clear HC2
    try clear p2
    try clear c3
    try clear IV
    try clear SX
    try clear c4
    try clear qal
    try clear qfz
    try clear p5
    try clear q5
    try clear hx5
    try clear qi5
    try clear p5
    try clear q5
    obtain ⟨kq, dS, rfl, HA, HJ1, ⟨mc1, rfl⟩⟩ := hcut
    cases kq with
    | zero => exact absurd HA.out (by simp [dH.j0])
    | succ kj1 =>
      have H := HA.out
      clear HA
      simp only [dH.j0] at H
      by_cases c6 : dS = true
      · subst c6
        have H1 : (some (0, false)) = some (r1, r2) := by rw [if_pos rfl] at H; exact H
        clear H
        have H := H1
        clear H1
        simp only [Option.some.injEq, Prod.mk.injEq] at H
        obtain ⟨rfl, rfl⟩ := H
        go_wp2
        go_ret2
        exact ⟨by first | rfl | (simp; done) | (simp [*]; done), by repeat (first | exact eU.refl _ | apply eU.step)⟩
      · replace c6 := Bool.eq_false_iff.mpr c6
        subst c6
        have H1 : (dH.l0 kj1 a0 0 8) = some (r1, r2) := by rw [if_neg (show ¬ (false = true) by decide)] at H; exact H
        clear H
        have H := H1
        clear H1
        have H' := aA.mk H
        clear H
        go_wp2
        go_loopg [4, 5] kj1 (fun kq v4 v5 w' => ∃ (IW : Int) (BG : Int), v4 = .int .u64 IW ∧ v5 = .int .i64 BG ∧ aA (dH.l0 kq a0 IW BG = some (r1, r2)) ∧ aA (kq ≤ kj1) ∧ eU w w')
        case atStart => exact ⟨(0), (8), (by first | rfl | (simp; done) | (simp [*]; done)), (by first | rfl | (simp; done) | (simp [*]; done)), H', ⟨Nat.le_refl _⟩, by repeat (first | exact eU.refl _ | apply eU.step)⟩
        case round =>
          clear H'
          try clear c1
          try clear p2
          try clear c3
          try clear IV
          try clear SX
          try clear c4
          try clear qal
          try clear qfz
          try clear p5
          try clear q5
          try clear hx5
          try clear qi5
          try clear c6
          try clear p2
          try clear p5
          try clear q5
          obtain ⟨IW, BG, rfl, rfl, HA, HK2, ⟨m2, rfl⟩⟩ := hrel
          cases gk with
          | zero => exact absurd HA.out (by simp [dH.l0])
          | succ k2 =>
            have H := HA.out
            clear HA
            simp only [dH.l0] at H
            by_cases c7 : BG > 0
            · rw [if_pos c7] at H
              have qfA : decide (0 < BG) = true := decide_eq_true c7
              clear c7
              by_cases c8 : 0 ≤ BG
              · rw [if_pos c8] at H
                have qfB : decide (0 ≤ BG) = true := decide_eq_true c8
                clear c8
                by_cases c9 : BG < (a0.size : Int)
                · rw [if_pos c9] at H
                  have qcS : decide (BG < (a0.size : Int)) = true := decide_eq_true c9
                  clear c9
                  have H' := aA.mk H
                  clear H
                  have p10 : 0 ≤ (BG : Int) := of_decide_eq_true (by first | (with_reducible assumption) | assumption)
                  have q10 : BG < (a0.size : Int) := of_decide_eq_true (by first | (with_reducible assumption) | assumption)
                  have qje := WC a0 BG
                  replace p10 := eq_true p10
                  replace q10 := eq_true q10
                  go_wp2
                  go_roundg k2
                  case measure => have := HJ1.out; have := HK2.out; omega
                  case rel => exact ⟨(Go.bits .or .u64 (IntKind.u64.wrap (IW * 256)) (IntKind.u64.wrap (bt a0 BG))), (wrap64 (BG - 1)), (by first | rfl | (simp; done) | (simp [*]; done)), (by first | rfl | (simp; done) | (simp [*]; done)), H', ⟨by have := HJ1.out; have := HK2.out; omega⟩, by repeat (first | exact eU.refl _ | apply eU.step)⟩
                · rw [if_neg c9] at H
                  exact absurd H (by simp)
              · rw [if_neg c8] at H
                exact absurd H (by simp)
            · rw [if_neg c7] at H
              have qfA : decide (0 < BG) = false := decide_eq_false c7
              clear c7
              simp only [Option.some.injEq, Prod.mk.injEq] at H
              obtain ⟨rfl, rfl⟩ := H
              go_wp2
              go_ret2
              exact ⟨by first | rfl | (simp; done) | (simp [*]; done), by repeat (first | exact eU.refl _ | apply eU.step)⟩
end Go.Proofs.U
namespace Go.Proofs.U
open Go.Proofs.UE (lQ sO)
open Go.Proofs
open Go.RowKit Go.Proofs.YW.PrintWords Go.Proofs.YW.PrintLast Go.Proofs.YW.PrintMore Go.Proofs.Sp Go.Proofs.fG
open Go.Maps
theorem qas {n b : Int} (h0 : 0 ≤ n) (h1 : n < 72057594037927936) (b0 : 0 ≤ b) (b1 : b ≤ 255) : bits .or .u64 (n * 256) b = n * 256 + b := by
 have e : (n * 256) % 2 ^ 8 = 0 := by
  rw [show (2 : Int) ^ 8 = 256 from rfl]
  omega
 have h2 : (2 : Int) ^ 64 = 18446744073709551616 := rfl
 refine bits_join .u64 64 (by decide) (fun m hm0 hm1 => ?_) 8 (n * 256) b (by omega) e ?_ b0 ?_ ?_
 ·rw [h2] at hm1
  rw [IntKind.wrap_u64]
  omega
 ·rw [h2]; omega
 ·rw [show (2 : Int) ^ 8 = 256 from rfl]; omega
 ·rw [h2]; omega
def nvF (s : ByteArray) : Nat → Int
 | 0 => 0
 | k + 1 => nvF s k * 256 + bt s ((8 - k : Nat) : Int)
theorem FT (s : ByteArray) : ∀ k, k ≤ 8 → 0 ≤ nvF s k ∧ nvF s k < ((256 ^ k : Nat) : Int)
 | 0, _ => ⟨Int.le_refl _, by show (0 : Int) < ((256 ^ 0 : Nat) : Int); decide⟩
 | k + 1, h => by
  obtain ⟨h1, h2⟩ := FT s k (by omega)
  obtain ⟨h3, h4⟩ := uU s ((8 - k : Nat) : Int)
  rw [nvF, Nat.pow_succ]
  exact ⟨by omega, by omega⟩
def qC (s : ByteArray) : Option Int := if s.size = 9 ∧ bt s 0 = 65 then some (nvF s 8) else none
theorem TM {s : ByteArray} {n : Int} (h : qC s = some n) : 0 ≤ n ∧ n < 18446744073709551616 := by
 unfold qC at h
 split at h
 ·injection h with h
  obtain ⟨h1, h2⟩ := FT s 8 (by omega)
  rw [h] at h1 h2
  exact ⟨h1, h2⟩
 ·cases h
theorem NP (s : ByteArray) (hs : s.size = 9) : ∀ (f k : Nat), k ≤ 8 → 8 - k < f → dH.l0 f s (nvF s k) ((8 - k : Nat) : Int) = some (nvF s 8, true)
 | 0, k, h, hf => by omega
 | f + 1, k, h, hf => by
  rw [dH.l0]
  by_cases hk : k < 8
  ·obtain ⟨h1, h2⟩ := FT s k h
   obtain ⟨h3, h4⟩ := uU s ((8 - k : Nat) : Int)
   have h5 : 256 ^ k ≤ 72057594037927936 := Nat.le_trans (Nat.pow_le_pow_right (by decide) (by omega : k ≤ 7)) (by decide)
   have e1 : IntKind.u64.wrap (nvF s k * 256) = nvF s k * 256 := by rw [IntKind.wrap_u64]; omega
   have e2 : IntKind.u64.wrap (bt s ((8 - k : Nat) : Int)) = bt s ((8 - k : Nat) : Int) := by rw [IntKind.wrap_u64]; omega
   have e3 : wrap64 (((8 - k : Nat) : Int) - 1) = ((8 - (k + 1) : Nat) : Int) := by unfold wrap64; omega
   rw [if_pos (by omega), if_pos (by omega), if_pos (by omega), e1, e2, e3, qas h1 (by omega) h3 h4]
   exact NP s hs f (k + 1) (by omega) (by omega)
  ·obtain rfl : k = 8 := by omega
   rw [if_neg (by decide)]
theorem number_eq (s : ByteArray) : dH.f 12 s = some (match qC s with | some n => (n, true) | none => (0, false)) := by
 rw [dH.f]
 by_cases h9 : s.size = 9
 ·rw [if_pos (by omega), if_pos (by omega), dH.j0]
  by_cases h0 : bt s 0 = 65
  ·rw [if_neg (by rw [h0]; decide), qC, if_pos ⟨h9, h0⟩]
   exact NP s h9 11 0 (by omega) (by omega)
  ·rw [if_pos (by rw [bne_iff_ne]; exact h0), qC, if_neg (fun h => h0 h.2)]
 ·rw [if_neg (by omega), dH.j0, if_pos rfl, qC, if_neg (fun h => h9 h.1)]
def qbZ (s : ByteArray) : Prop := s ≠ ⟨#[]⟩ ∧ bt s 0 = 80
def kU (rs : List S62) (n : Int) : Nat := (rs.filter fun r => decide (qC r.f1 = some n)).length
theorem qb3 (rs : List S62) (n : Int) : kU rs n ≤ rs.length := List.length_filter_le _ _
theorem wU (r : S62) (rs : List S62) (n : Int) : kU (r :: rs) n = if qC r.f1 = some n then kU rs n + 1 else kU rs n := by
 unfold kU
 rw [List.filter_cons]
 split
 ·rename_i h
  rw [if_pos (by simpa using h)]
  rfl
 ·rename_i h
  rw [if_neg (by simpa using h)]
open Classical in
noncomputable def dA : List S62 → List S41
 | [] => []
 | r :: rest => if qC r.f1 = none ∧ qbZ r.f1 ∧ kU rest r.f0 = 0 then ⟨r.f0, r.f1.extract 1 r.f1.size, false⟩ :: dA rest else dA rest
theorem wV : ∀ rs, (dA rs).length ≤ rs.length
 | [] => Nat.le_refl _
 | r :: rest => by
  have := wV rest
  rw [dA]
  split
  ·simp only [List.length_cons]; omega
  ·simp only [List.length_cons]; omega
def FU (g n : Nat) (D : DataW Unit) : Res where
 holds W := W.ownsMap Tryz.prog 28 (plainElem Tryz.prog 3) g n D
 foot k := k = g
 lives h hr := by
  have hlt := hr.lt
  obtain ⟨es, clock, hb, F, hs, hD⟩ := hr
  exact ⟨es, clock, (h g rfl hlt).trans hb, F, hs, hD⟩
 lt h e := by rw [e]; exact h.lt
theorem wf64 {n : Int} (h0 : 0 ≤ n) (h1 : n < 18446744073709551616) : (Lit.int .u64 n).wf = true := by
 have : IntKind.u64.min ≤ n ∧ n ≤ IntKind.u64.max := ⟨h0, by show n ≤ 18446744073709551615; omega⟩
 simpa [Lit.wf] using this
theorem qdN {n : Int} (h0 : 0 ≤ n) (h1 : n < 18446744073709551616) : keyOf Tryz.prog 28 (.int .u64 n) = some (.int .u64 n) := keyOf_int_mk Tryz.underlying28 (wf64 h0 h1)
def NQ (D : DataW Unit) (c : Int → Nat) : Prop := ∀ n, 0 ≤ n → n < 18446744073709551616 → D.atKey (.int .u64 n) (.lit (.int .i64 0)) = .lit (.int .i64 (c n : Int))
theorem qb4 {W : World} {g m : Nat} {D : DataW Unit} {c : Int → Nat} (h : W.ownsMap Tryz.prog 28 (plainElem Tryz.prog 3) g m D) (hD : NQ D c) {n : Int} (h0 : 0 ≤ n) (h1 : n < 18446744073709551616) :
  (Instr.lookup 150 (.map (some g)) (.int .u64 n) false).run Tryz.prog W = .ok (.int .i64 (c n : Int)) W := by
 obtain ⟨v, hrun, hat, _⟩ := h.lookup_int (t := 150) (e := 3) (q := .i64) (int_keyed Tryz.underlying28) Tryz.underlying150 Tryz.underlying3 (by kernel_rfl) (qdN h0 h1)
 rw [hD n h0 h1] at hat
 injection hat with hat
 injection hat with _ hat
 rw [hrun, hat]
theorem Sep.qeF {b W W1 : World} {rs : List Res} {g n : Nat} {D D' : DataW Unit} (H : Sep b W (FU g n D :: rs)) (h1 : W1.ownsMap Tryz.prog 28 (plainElem Tryz.prog 3) g (n + 1) D') (hg : W.grownBy W1 (some g)) : Sep b W1 (FU g (n + 1) D' :: rs) :=
 H.qct (r' := FU g (n + 1) D') ((Upd.xH hg).mono fun k hk => by injection hk with hk; exact hk.symm) h1 (fun k hk => .inl hk)
theorem qdp {P : Program} {ops : Array Oper} {rest : List Oper} {o : Oper} {a : Act} {Q : Exit → Act → World → Prop} {b W : World} {rs : List Res} (hgd : o.guard = none) (H : aA (Sep b W rs))
  (hrun : (execOp a.eval o).run P W = .ok (.value (.map (some W.heap.size))) (W.alloc (.map #[] 0)))
  (h : ∀ g W', aA (Sep b W' (FU g 0 (.map []) :: rs)) → wpList P ops Q rest (a.put o.dst (.map (some g))) W') : wpList P ops Q (o :: rest) a W :=
 Kd.uX hgd hrun (h _ _ ⟨H.out.push (aQ (Below.refl _ _) _) (FU W.heap.size 0 (.map [])) (World.ownsMap_made W _ _ _) (fun g hg => by rw [show g = W.heap.size from hg]; exact Nat.le_refl _)⟩)
theorem qat : NQ (.map []) (fun _ => 0) := fun n _ _ => rfl
theorem qau (k : IntKind) (n : Int) : WideAt.IsKeyLit (.int k n) := by first | exact trivial | (unfold WideAt.IsKeyLit; trivial) | simp [WideAt.IsKeyLit]
theorem qav {D : DataW Unit} {c : Int → Nat} (hD : NQ D c) (hm : IsMap D) {n : Int} (h0 : 0 ≤ n) (h1 : n < 18446744073709551616) : NQ (D.put (.int .u64 n) (.lit (.int .i64 ((c n : Int) + 1)))) (fun m => if m = n then c n + 1 else c m) := by
 intro m g0 g1
 by_cases h : m = n
 ·subst h
  rw [Maps.atKey_put_same hm (qau _ _)]
  simp
 ·rw [Maps.atKey_put_other (by intro e; injection e with _ e; exact h e), hD m g0 g1]
  simp [h]
theorem D5 : ∀ (l : List S41) (i : Nat) (x : S41) (u : Int), l[i]? = some x → (UE.cellsOf l).set (i * 3) (.int .u64 u) = UE.cellsOf (l.set i ⟨u, x.f1, x.f2⟩)
 | [], i, x, u, h => by simp at h
 | y :: l, 0, x, u, h => by
  obtain rfl : y = x := by simpa using h
  simp [UE.bZ]
 | y :: l, i + 1, x, u, h => by
  show _ = UE.cellsOf (y :: l.set i _)
  rw [UE.bZ, UE.bZ, ← D5 l i x u (by simpa using h), show (i + 1) * 3 = i * 3 + 1 + 1 + 1 by omega]
  simp only [zS]
theorem KY {b W : World} {pre post : List Res} {g c n i : Nat} {l : List S41} {x : S41} (y : S41) (hn : n = l.length) (hx : l[i]? = some x) (H : Sep b W (pre ++ row k41 41 (.slice (some ⟨g, 0, none⟩) n c) l :: post)) :
  Sep b (((W.setCell ⟨g, i * 3, none⟩ (.int .u64 y.f0)).setCell ⟨g, i * 3 + 1, none⟩ (.string y.f1)).setCell ⟨g, i * 3 + 2, none⟩ (.bool y.f2)) (pre ++ row k41 41 (.slice (some ⟨g, 0, none⟩) n c) (l.set i y) :: post) := by
 have hi := (List.getElem?_eq_some_iff.1 hx).1
 have h1 := lQ (l' := l.set i ⟨y.f0, x.f1, x.f2⟩) (j := i * 3) (u := .int .u64 y.f0) hn H (by simp) (D5 l i x y.f0 hx) (by omega)
 have h2 := lQ (l' := (l.set i ⟨y.f0, x.f1, x.f2⟩).set i ⟨y.f0, y.f1, x.f2⟩) (j := i * 3 + 1) (u := .string y.f1) (by rw [hn]; simp) h1 (by simp) (UE.jV _ i ⟨y.f0, x.f1, x.f2⟩ y.f1 (by rw [List.getElem?_set_self hi])) (by simp; omega)
 have h3 := lQ (l' := ((l.set i ⟨y.f0, x.f1, x.f2⟩).set i ⟨y.f0, y.f1, x.f2⟩).set i ⟨y.f0, y.f1, y.f2⟩) (j := i * 3 + 2) (u := .bool y.f2) (by rw [hn]; simp) h2 (by simp) (UE.jI _ i ⟨y.f0, y.f1, x.f2⟩ y.f2 (by rw [List.getElem?_set_self (by rw [List.length_set]; exact hi)])) (by simp; omega)
 rw [List.set_set, List.set_set] at h3
 exact h3
structure qaw (l : List S41) (i : Nat) (cur : List S41) : Prop where
 len : cur.length = l.length
 low : 2 * i ≤ l.length + 1
 old : ∀ k, k < i → cur[k]? = l[l.length - 1 - k]? ∧ cur[l.length - 1 - k]? = l[k]?
 new : ∀ k, i ≤ k → k + i < l.length → cur[k]? = l[k]?
theorem qaw.step {l cur : List S41} {i : Nat} {x y : S41} (h : qaw l i cur) (hi : 2 * i + 1 < l.length) (hx : cur[i]? = some x) (hy : cur[l.length - 1 - i]? = some y) : qaw l (i + 1) ((cur.set i y).set (l.length - 1 - i) x) := by
 have hxl := h.new i (Nat.le_refl _) (by omega)
 have hyl := h.new (l.length - 1 - i) (by omega) (by omega)
 have ha : i < cur.length := by rw [h.len]; omega
 have hb : l.length - 1 - i < cur.length := by rw [h.len]; omega
 refine ⟨by simp [h.len], by omega, fun k hk => ?_, fun k hk hk2 => ?_⟩
 ·by_cases hki : k = i
  ·subst hki
   constructor
   ·rw [List.getElem?_set_ne (by omega), List.getElem?_set_self ha, ← hyl, hy]
   ·rw [List.getElem?_set_self (by rw [List.length_set]; exact hb), ← hxl, hx]
  ·obtain ⟨g1, g2⟩ := h.old k (by omega)
   rw [List.getElem?_set_ne (by omega), List.getElem?_set_ne (by omega), List.getElem?_set_ne (by omega), List.getElem?_set_ne (by omega)]
   exact ⟨g1, g2⟩
 ·rw [List.getElem?_set_ne (by omega), List.getElem?_set_ne (by omega)]
  exact h.new k (by omega) (by omega)
theorem qaw.done {l cur : List S41} {i : Nat} (h : qaw l i cur) (hi : ¬ 2 * i + 1 < l.length) : cur = l.reverse := by
  apply List.ext_getElem?
  intro k
  by_cases hk : k < l.length
  · rw [List.getElem?_reverse hk]
    by_cases h3 : k < i
    · exact (h.old k h3).1
    · by_cases h4 : l.length - 1 - k < i
      · have := (h.old (l.length - 1 - k) h4).2
        rw [show l.length - 1 - (l.length - 1 - k) = k by omega] at this
        exact this
      · have := h.new k (by omega) (by omega)
        have hl := h.low
        rw [this]
        congr 1
        omega
  · rw [List.getElem?_eq_none (by rw [h.len]; omega), List.getElem?_eq_none (by rw [List.length_reverse]; omega)]
set_option maxHeartbeats 8000000 in
theorem TN {b w : World} {rs : List Res} (B : Option Addr) (d : Nat) (l : List S41) (hl : l.length ≤ 1000000000) (H0 : aA (Sep b w (qH B d l :: rs))) :
  Calls Tryz.prog 99 #[.slice B l.length d] w fun e w' => e = .returned (.tuple #[]) ∧ aA (Sep b w' (row k41 41 (.slice B l.length d) l.reverse :: rs)) := by
 have HL := aA.mk hl
 have H := H0
 clear H0 hl
 have hw1 : wrap64 ((l.length : Int) - 1) = (l.length : Int) - 1 - ((0 : Nat) : Int) := by
  have := HL.out
  unfold wrap64
  omega
 go_enter Tryz.func99, Tryz.ntmps99
 go_wp2
 try rw [hw1]
 go_loopw [2, 3] (fun v2 v3 wr => ∃ (i : Nat) (cur : List S41), v2 = .int .i64 (i : Int) ∧ v3 = .int .i64 ((l.length : Int) - 1 - (i : Int)) ∧ aA (qaw l i cur) ∧ aA (Sep b wr (row k41 41 (.slice B l.length d) cur :: rs))) (fun v2 _ _ => (l.length + 1 - 2 * (intOf v2).toNat))
 case atStart => exact ⟨0, l, rfl, rfl, ⟨⟨rfl, by omega, fun k hk => by omega, fun k _ _ => rfl⟩⟩, H⟩
 case round =>
  clear H
  obtain ⟨i, cur, rfl, rfl, HI, H⟩ := hrel
  by_cases hi : 2 * i + 1 < l.length
  ·obtain ⟨j, hj⟩ : ∃ j, j = l.length - 1 - i := ⟨_, rfl⟩
   have hji : (l.length : Int) - 1 - (i : Int) = (j : Int) := by omega
   rw [hji]
   have hcl := HI.out.len
   obtain ⟨x, hx⟩ : ∃ x, cur[i]? = some x := ⟨_, List.getElem?_eq_getElem (by omega)⟩
   obtain ⟨y, hy⟩ : ∃ y, cur[j]? = some y := ⟨_, List.getElem?_eq_getElem (by omega)⟩
   have HX := aA.mk hx
   have HY := aA.mk hy
   have HJ := aA.mk hj
   have HCL := aA.mk hcl
   have HII := aA.mk hi
   obtain ⟨gp, hgp⟩ := pK (B := B) (d := d) (es := cur) (by have h := H.out; rwa [← HCL.out] at h) aJ (by omega)
   subst hgp
   have Hc : Sep b wr (qH (some ⟨gp, 0, none⟩) d cur :: rs) := by have h := H.out; rwa [← HCL.out] at h
   obtain ⟨k0, k1, k2, kf⟩ := qA (gp := gp) (d := d) Hc aJ hx
   obtain ⟨m0, m1, m2, -⟩ := qA (gp := gp) (d := d) Hc aJ hy
   have hij : (i : Int) < (j : Int) := by omega
   have hi0 : (0 : Int) ≤ (i : Int) := by omega
   have hi1 : (i : Int) < (l.length : Int) := by omega
   have hj0 : (0 : Int) ≤ (j : Int) := by omega
   have hj1 : (j : Int) < (l.length : Int) := by omega
   have hw2 : wrap64 ((i : Int) + 1) = ((i + 1 : Nat) : Int) := by
    have := HL.out
    unfold wrap64
    omega
   have hw3 : wrap64 ((j : Int) - 1) = (l.length : Int) - 1 - ((i + 1 : Nat) : Int) := by
    have := HL.out
    unfold wrap64
    omega
   have n00 : ¬ i * 3 = j * 3 := by omega
   have o00 : ¬ j * 3 = i * 3 := by omega
   have n01 : ¬ i * 3 = j * 3 + 1 := by omega
   have o01 : ¬ j * 3 + 1 = i * 3 := by omega
   have n02 : ¬ i * 3 = j * 3 + 2 := by omega
   have o02 : ¬ j * 3 + 2 = i * 3 := by omega
   have n10 : ¬ i * 3 + 1 = j * 3 := by omega
   have o10 : ¬ j * 3 = i * 3 + 1 := by omega
   have n11 : ¬ i * 3 + 1 = j * 3 + 1 := by omega
   have o11 : ¬ j * 3 + 1 = i * 3 + 1 := by omega
   have n12 : ¬ i * 3 + 1 = j * 3 + 2 := by omega
   have o12 : ¬ j * 3 + 2 = i * 3 + 1 := by omega
   have n20 : ¬ i * 3 + 2 = j * 3 := by omega
   have o20 : ¬ j * 3 = i * 3 + 2 := by omega
   have n21 : ¬ i * 3 + 2 = j * 3 + 1 := by omega
   have o21 : ¬ j * 3 + 1 = i * 3 + 2 := by omega
   have n22 : ¬ i * 3 + 2 = j * 3 + 2 := by omega
   have o22 : ¬ j * 3 + 2 = i * 3 + 2 := by omega
   clear Hc hcl hx hy hj hi hji
   go_upto_region 3 with fail
   go_region
   clear k0 k1 k2 kf m0 m1 m2 n00 o00 n01 o01 n02 o02 n10 o10 n11 o11 n12 o12 n20 o20 n21 o21 n22 o22
   refine qQ (rs := row k41 41 (.slice (some ⟨gp, 0, none⟩) l.length d) ((cur.set i y).set j x) :: rs) (Sep.drew (KY (pre := []) x (by rw [List.length_set]; exact HCL.out.symm) (x := y) (by rw [List.getElem?_set_ne (by have h1 := HJ.out; have h2 := HII.out; omega)]; exact HY.out) (KY (pre := []) y HCL.out.symm HX.out H.out))) ?_
   intro wn n_
   clear H
   go_wp2_with fail
   try rw [hw2]
   try rw [hw3]
   refine ⟨⟨i + 1, (cur.set i y).set j x, rfl, rfl, ⟨by rw [HJ.out]; exact HI.out.step HII.out HX.out (by rw [← HJ.out]; exact HY.out)⟩, n_⟩, ?_⟩
   have := HII.out
   simp [intOf]
   omega
  ·have hin : ¬ (i : Int) < (l.length : Int) - 1 - (i : Int) := by omega
   have hin2 : ¬ ((i : Int) + ((i : Int) + 1)) < (l.length : Int) := by omega
   go_wp2_with fail
   go_end0
   refine ⟨rfl, ?_⟩
   rw [← HI.out.done hi]
   exact H
theorem qiq {n : Int} (h0 : -9223372036854775808 ≤ n) (h1 : n < 9223372036854775808) : (Lit.int .i64 n).wf = true := by
 have : IntKind.i64.min ≤ n ∧ n ≤ IntKind.i64.max := ⟨h0, by show n ≤ 9223372036854775807; omega⟩
 simpa [Lit.wf] using this
set_option maxHeartbeats 8000000 in
theorem IB (A : Option Addr) (c : Nat) (l : List S62) (w : World) (hr : Kd.C k62 w A l.length l) (hl : l.length ≤ 1048576) (hf : ∀ x ∈ l, 0 ≤ x.f0 ∧ x.f0 < 18446744073709551616) :
  Calls Tryz.prog 51 #[.slice A l.length c] w fun e w' => ∃ A' c', e = .returned (.slice A' (dA l).length c') ∧ aA (Sep w w' [qH A' c' (dA l)]) := by
 have HRp := aA.mk hr
 have HL := aA.mk hl
 have HF := aA.mk hf
 clear hr hl hf
 have H := aA.mk (Sep.start w)
 go_enter Tryz.func51, Tryz.ntmps51
 have hw1 : wrap64 ((l.length : Int) - 1) = (l.length : Int) - 1 := by
  have := HL.out
  unfold wrap64
  omega
 go_wp2_with (first
 |((with_reducible refine aP (N := 9) rfl ?_);
   refine qdp rfl H ?hr ?_;
   (case hr => first | (go_simp; done) | (go_simp; rfl) | rfl);
   intro gm wd1 n_;
   simp only [Act.put, zA, zZ, zS];
   clear H;
   have H := n_;
   clear n_)
 |fail)
 try rw [hw1]
 go_loopw [4, 5, 6, 7, 8] (fun v4 v5 v6 v7 v8 wr => ∃ (i : Nat) (o : List S41) (Ao : Option Addr) (co m : Nat) (D : DataW Unit), v4 = .slice Ao o.length co ∧ v5 = .int .i64 ((i : Int) - 1) ∧ i ≤ l.length ∧ m ≤ l.length - i ∧ aA (o = (dA (l.drop i)).reverse) ∧ aA (NQ D (kU (l.drop i))) ∧ aA (Sep w wr [row k41 41 (.slice Ao o.length co) o, FU gm m D])) (fun _ v5 _ _ _ _ => (intOf v5 + 1).toNat)
 case atStart =>
  exact ⟨l.length, [], none, 0, 0, .map [], rfl, rfl, Nat.le_refl _, Nat.zero_le _, ⟨by rw [List.drop_length]; rfl⟩, ⟨by rw [List.drop_length]; exact qat⟩, ⟨Sep.eG H.out⟩⟩
 case round =>
  clear H
  obtain ⟨i, o, Ao, co, m, D, rfl, rfl, hi, hm, HO, HD, H⟩ := hrel
  by_cases hi0 : i = 0
  ·
   subst hi0
   have hneg : ¬ (0 : Int) ≤ ((0 : Nat) : Int) - 1 := by omega
   have HOL : aA (o.length ≤ 1000000000) := ⟨by
    rw [HO.out, List.length_reverse]
    have h1 := wV (l.drop 0)
    have h2 := HL.out
    rw [List.drop_zero] at h1 ⊢
    omega⟩
   go_wp2_with fail
   refine (TN Ao co o HOL.out H).mono ?_
   rintro e wd2 ⟨rfl, H4⟩
   go_wp2_with fail
   go_ret
   have e1 : o.reverse = dA l := by rw [HO.out, List.reverse_reverse, List.drop_zero]
   have e2 : o.length = (dA l).length := by rw [← e1, List.length_reverse]
   rw [e1, e2] at H4
   rw [e2]
   exact ⟨Ao, co, rfl, ⟨H4.out.drop1⟩⟩
  ·
   obtain ⟨j, hj⟩ : ∃ j, i = j + 1 := ⟨i - 1, by omega⟩
   subst hj
   clear hi0
   have hjl : j < l.length := by omega
   obtain ⟨x, hx⟩ : ∃ x, l[j]? = some x := ⟨_, List.getElem?_eq_getElem hjl⟩
   have hd : l.drop j = x :: l.drop (j + 1) := by
    rw [List.drop_eq_getElem_cons hjl]
    congr 1
    rw [List.getElem?_eq_getElem hjl] at hx
    exact Option.some.inj hx
   have HDJ := aA.mk hd
   have hxm := HF.out x (List.mem_of_getElem? hx)
   have HX0 := aA.mk hxm.1
   have HX1 := aA.mk hxm.2
   obtain ⟨ad, e1⟩ := qfy (H.out.came HRp.out) (by omega)
   subst e1
   obtain ⟨q0, q1⟩ := qip (H.out.came HRp.out) hx
   have hji : ((j + 1 : Nat) : Int) - 1 = (j : Int) := by omega
   have hj0 : (0 : Int) ≤ (j : Int) := by omega
   have hj1 : (j : Int) < (l.length : Int) := by omega
   have hw3 : wrap64 ((j : Int) - 1) = ((j : Nat) : Int) - 1 := by
    have := HL.out
    unfold wrap64
    omega
   clear hd hx hxm
   rw [hji]
   go_wp2_with (first
 |((with_reducible refine aP (N := 6) rfl ?_);
   refine bG rfl H (cs := [.int .u64 0, .string ⟨#[]⟩]) (t := 62) ?hr ?_;
   (case hr => first | (go_simp; done) | (go_simp; rfl));
   intro gr wd3 n_;
   simp only [Act.put, zA, zZ, zS];
   clear H;
   have H := n_;
   clear n_;
   have c_r := H.out.cell (g := gr) aJ;
   have z_r := H.out.frozen (g := gr) aJ)
 |((with_reducible refine aN (t := 62) (p := 6) rfl ?_);
   refine aZ (rs1 := [box gr [.int .u64 x.f0, .string x.f1] 62, row k41 41 (.slice Ao (o).length co) o, FU gm m D]) rfl (t := 62) (p := 6) rfl rfl ?hr (H1 := (Sep.set0 (Sep.set0 H.out 0 (.int .u64 x.f0) rfl) 1 (.string x.f1) rfl)) ?_;
   (case hr => first | (go_simp; done) | (go_simp; rfl));
   intro wd4 n_;
   clear H c_r z_r;
   have H := n_;
   clear n_;
   have c_r := H.out.cell (g := gr) aJ;
   have z_r := H.out.frozen (g := gr) aJ;
   clear q0 q1)
 |fail)
   obtain ⟨v1, v2, hv⟩ : ∃ v1 v2, dH.f 12 x.f1 = some (v1, v2) := ⟨_, _, number_eq x.f1⟩
   have HV : aA ((match qC x.f1 with | some n => (n, true) | none => (0, false)) = (v1, v2)) := ⟨Option.some.inj ((number_eq x.f1).symm.trans hv)⟩
   refine (dH.calls 12 x.f1 v1 v2 _ hv).mono ?_
   rintro e wd5 ⟨rfl, hb_⟩
   clear hv
   have n_ : aA (Sep w wd5 [box gr [.int .u64 x.f0, .string x.f1] 62, row k41 41 (.slice Ao (o).length co) o, FU gm m D]) := ⟨H.out.step (eU.below hb_)⟩
   clear H c_r z_r
   have H := n_
   clear n_
   have c_r := H.out.cell (g := gr) aJ
   clear hb_
   cases hak : qC x.f1 with
   | some n =>
    have hv := HV.out
    rw [hak] at hv
    obtain ⟨rfl, rfl⟩ := Prod.mk.inj hv
    obtain ⟨hn0, hn1⟩ := TM hak
    have HAK := aA.mk hak
    have HN0 := aA.mk hn0
    have HN1 := aA.mk hn1
    have hlk := qb4 (H.out.all (FU gm m D) (by simp)) HD.out hn0 hn1
    obtain ⟨cn, hcn⟩ : ∃ cn, cn = kU (l.drop (j + 1)) n := ⟨_, rfl⟩
    rw [← hcn] at hlk
    have HCN := aA.mk hcn
    have hcl : cn ≤ 1048576 := by
     have h1 := qb3 (l.drop (j + 1)) n
     have h2 := HL.out
     rw [List.length_drop] at h1
     omega
    have hw4 : wrap64 ((cn : Int) + 1) = (cn : Int) + 1 := by unfold wrap64; omega
    have HML : aA (m < maxLen) := ⟨by have := HL.out; unfold maxLen; omega⟩
    have HMH : aA (∀ W, Sep w W [box gr [.int .u64 x.f0, .string x.f1] 62, row k41 41 (.slice Ao (o).length co) o, FU gm m D] → W.ownsMap Tryz.prog 28 (plainElem Tryz.prog 3) gm m D) := ⟨fun W h => h.all (FU gm m D) (by simp)⟩
    have HIM : aA (IsMap D) := ⟨World.ownsMap.isMap (HMH.out _ H.out)⟩
    have HCL := aA.mk hcl
    clear hak hn0 hn1 hcn hv hcl
    go_wp2_with (first
 |(at_mapUpdate;
   refine wpList_mapUpdate_own _ rfl _ _ _ 150 rfl 28 3 (int_keyed Tryz.underlying28) Tryz.underlying150 (plainElem Tryz.prog 3) gm m D rfl (HMH.out _ H.out) HML.out _ (.int .i64 ((cn : Int) + 1)) (.int .u64 n) rfl (by first | exact congrArg (Value.int .i64) hw4 | rfl) (qdN HN0.out HN1.out) (.lit (.int .i64 ((cn : Int) + 1))) [] (plainElem_int Tryz.underlying3 (qiq (by omega) (by have := HCL.out; omega))) ?_;
   intro wd6 hown1 hgrow1;
   simp only [Act.put, zA, zZ, zS])
 |fail)
    have n_ : aA (Sep w wd6 [FU gm (m + 1) (D.put (.int .u64 n) (.lit (.int .i64 ((cn : Int) + 1)))), box gr [.int .u64 x.f0, .string x.f1] 62, row k41 41 (.slice Ao (o).length co) o]) := ⟨Sep.qeF (Sep.iQ H.out) hown1 hgrow1⟩
    clear H c_r
    have H := n_
    clear n_
    have c_r := H.out.cell (g := gr) mem1
    try rw [hw3]
    refine ⟨⟨j, o, Ao, co, m + 1, _, rfl, rfl, by omega, by omega, ⟨?_⟩, ⟨?_⟩, ⟨(Sep.iP (Sep.drop1 H.out))⟩⟩, by simp [intOf] <;> omega⟩
    ·rw [HO.out, HDJ.out, dA, if_neg (fun h => by rw [HAK.out] at h; cases h.1)]
    ·have h := qav HD.out HIM.out HN0.out HN1.out
     rw [← HCN.out] at h
     rw [HDJ.out]
     intro k g0 g1
     rw [h k g0 g1, wU, HAK.out]
     have e : (if k = n then cn + 1 else kU (l.drop (j + 1)) k) = (if some n = some k then kU (l.drop (j + 1)) k + 1 else kU (l.drop (j + 1)) k) := by
      by_cases hk : k = n
      ·subst hk
       rw [if_pos rfl, if_pos rfl, HCN.out]
      ·rw [if_neg hk, if_neg (fun e => hk (Option.some.inj e).symm)]
     exact congrArg (fun t : Nat => (DataW.lit (.int .i64 (t : Int)) : DataW Unit)) e
   | none =>
    have hv := HV.out
    rw [hak] at hv
    obtain ⟨rfl, rfl⟩ := Prod.mk.inj hv
    have HAK := aA.mk hak
    have hgd : ∀ k : Int, kU (l.drop j) k = kU (l.drop (j + 1)) k := fun k => by rw [HDJ.out, wU, HAK.out, if_neg (by simp)]
    have HGD : aA (NQ D (kU (l.drop j))) := ⟨fun k g0 g1 => by rw [hgd k]; exact HD.out k g0 g1⟩
    have hlk := qb4 (H.out.all (FU gm m D) (by simp)) HD.out HX0.out HX1.out
    obtain ⟨cn, hcn⟩ : ∃ cn, cn = kU (l.drop (j + 1)) x.f0 := ⟨_, rfl⟩
    rw [← hcn] at hlk
    have HCN := aA.mk hcn
    clear hak hv hgd hcn
    by_cases hem : x.f1 = ⟨#[]⟩
    ·
     have HEM := aA.mk hem
     have hb1 : x.f1.toList = [] := by
      rw [hem]
      first | done | rw [ByteArray.toList_eq]
     clear hem
     go_wp2_with fail
     try rw [hw3]
     refine ⟨⟨j, o, Ao, co, m, D, rfl, rfl, by omega, by omega, ⟨?_⟩, HGD, ⟨(Sep.dV H.out)⟩⟩, by simp [intOf] <;> omega⟩
     rw [HO.out, HDJ.out, dA, if_neg (fun h => h.2.1.1 HEM.out)]
    ·
     have HEM := aA.mk hem
     have hsz : 0 < x.f1.size := by
      rcases Nat.eq_zero_or_pos x.f1.size with h | h
      ·exact absurd (ByteArray.size_eq_zero_iff.1 h) hem
      ·exact h
     have hszI : (0 : Int) < (x.f1.size : Int) := by omega
     have qjf : (1 : Int) ≤ (x.f1.size : Int) := by omega
     have hb1 : ¬ x.f1.toList = [] := fun h => hem (qN (by rw [ByteArray.toList_eq] at h; exact h))
     have hbe : x.f1.toList.isEmpty = false := by
      cases e : x.f1.toList with
      | nil => exact absurd e hb1
      | cons _ _ => rfl
     have hba : ∀ h : 0 < x.f1.size, ((x.f1[0]'h).toNat : Int) = bt x.f1 0 := fun h => WC x.f1 0 h
     by_cases h80 : bt x.f1 0 = 80
     ·
      have H80 := aA.mk h80
      have hb3 : ∀ h : 0 < x.f1.size, ((x.f1[0]'h).toNat : Int) = 80 := fun h => (hba h).trans h80
      clear hba h80 hem
      by_cases hc0 : cn = 0
      ·
       have HC0 := aA.mk hc0
       subst hc0
       have HOL : aA (o.length ≤ 1048576) := ⟨by
        rw [HO.out, List.length_reverse]
        have h1 := wV (l.drop (j + 1))
        have h2 := HL.out
        rw [List.length_drop] at h1
        omega⟩
       go_upto_region 11 with fail
       have hS3 := Sep.drew H.out
       refine gX (n := 10) (S := fun w' => (∀ j : Nat, w'.cell? ⟨gr, j, none⟩ = [.int .u64 x.f0, .string x.f1][j]?)) (ds := []) #[false, false, false, false, false, false, false, false, false, false] (by kernel_rfl) rfl rfl ((fun j => ((Sep.drew H.out)).cell (g := gr) aJ j)) (fun hHeld => ?_)
       refine puS (i := 0) (N := some 48) (v := ?_) (a' := ?_) rfl rfl (by kernel_rfl) (fun _ _ _ h => h) (Or.inl ⟨by rfl, ?_⟩) ?_ ?_
       rotate_left
       ·intro w'
        go_simp
        with_reducible rfl
       rotate_left
       ·simp only [Act.put, zA, zZ, zS, aH, aI]
        rfl
       refine puS (i := 1) (N := some 49) (v := ?_) (a' := ?_) rfl rfl (by kernel_rfl) (fun _ _ _ h => h) (Or.inl ⟨by rfl, ?_⟩) ?_ ?_
       rotate_left
       ·intro w'
        go_simp
        with_reducible rfl
       rotate_left
       ·simp only [Act.put, zA, zZ, zS, aH, aI]
        rfl
       refine puS (i := 3) (N := some 51) (v := ?_) (a' := ?_) rfl rfl (by kernel_rfl) (fun _ _ _ h => h) (Or.inl ⟨by rfl, ?_⟩) ?_ ?_
       rotate_left
       ·intro w'
        go_simp
        with_reducible rfl
       rotate_left
       ·simp only [Act.put, zA, zZ, zS, aH, aI]
        rfl
       refine tkS (i := 2) (N := some 50) (v := ?_) (a' := ?_) rfl rfl (by kernel_rfl) (fun _ _ _ h => h) (Or.inl ⟨by rfl, ?_⟩) hHeld ?_ ?_
       rotate_left
       ·intro w' s0
        go_simp
        with_reducible rfl
       rotate_left
       ·simp only [Act.put, zA, zZ, zS, aH, aI]
        rfl
       refine tkS (i := 4) (N := some 52) (v := ?_) (a' := ?_) rfl rfl (by kernel_rfl) (fun _ _ _ h => h) (Or.inl ⟨by rfl, ?_⟩) hHeld ?_ ?_
       rotate_left
       ·intro w' s0
        go_simp
        with_reducible rfl
       rotate_left
       ·simp only [Act.put, zA, zZ, zS, aH, aI]
        rfl
       refine puS (i := 5) (N := some 53) (v := ?_) (a' := ?_) rfl rfl (by kernel_rfl) (fun _ _ _ h => h) (Or.inl ⟨by rfl, ?_⟩) ?_ ?_
       rotate_left
       ·intro w'
        go_simp
        with_reducible rfl
       rotate_left
       ·simp only [Act.put, zA, zZ, zS, aH, aI]
        rfl
       refine puS (i := 6) (N := some 54) (v := ?_) (a' := ?_) rfl rfl (by kernel_rfl) (fun _ _ _ h => h) (Or.inl ⟨by rfl, ?_⟩) ?_ ?_
       rotate_left
       ·intro w'
        go_simp
        with_reducible rfl
       rotate_left
       ·simp only [Act.put, zA, zZ, zS, aH, aI]
        rfl
       refine onS (i := 7) (N := some 55) rfl rfl (by kernel_rfl) (by decide) (fun K hK => ?_)
       refine TF (N := some 55) (by rfl) rfl hS3 [.int .u64 x.f0, .string (x.f1.extract 1 x.f1.size), .bool false] 41 1 ?_ ?_
       ·first | (go_simp; done) | (go_simp; rfl)
       intro g9 w9 hS9
       refine hK.out _ _ ((fun j => (hS9).cell (g := gr) mem1 j)) (fun hHeld => ?_)
       clear hK K
       refine fU (a' := ?_) ?_ ?_
       rotate_left
       ·show Act.put _ (some 55) _ = _
        simp only [Act.put, zA, zZ, zS, aH, aI]
        rfl
       refine onS (i := 8) (N := some 56) rfl rfl (by kernel_rfl) (by decide) (fun K hK => ?_)
       refine zL k41 rF (by rfl) (.tmp 48) (.tmp 55) 31 41 (.agg #[.int .u64 0, .string ⟨#[]⟩, .bool false]) 32 rfl Tryz.underlying31 zV rfl (by decide) (by decide) (.slice Ao o.length co) o [(⟨x.f0, x.f1.extract 1 x.f1.size, false⟩ : S41)] (some ⟨g9, 0, none⟩) 1 (by first | rfl | (go_simp; done) | (go_simp; rfl)) (by first | rfl | (go_simp; done) | (go_simp; rfl)) (YX (fun j => hS9.cell (g := g9) aJ j)) (fun x cs h => by obtain rfl := DF h; exact vZ _ _ _ _) hS9.iQ (by have := HOL.out; simp only [List.length_singleton]; omega) ?_
       intro A10 c10 w10 KP
       obtain ⟨o2, ho2⟩ : ∃ o2, o2 = o ++ [(⟨x.f0, x.f1.extract 1 x.f1.size, false⟩ : S41)] := ⟨_, rfl⟩
       rw [← ho2] at KP ⊢
       have HO2 := aA.mk ho2
       clear ho2
       refine hK.out _ _ ((fun j => KP.cell (g := gr) mem2 j)) (fun hHeld => ?_)
       clear hK K
       refine fU (a' := ?_) ?_ ?_
       rotate_left
       ·show Act.put _ (some 56) _ = _
        simp only [Act.put, zA, zZ, zS, aH, aI]
        rfl
       refine puS (i := 9) (N := some 4) (v := ?_) (a' := ?_) rfl rfl (by kernel_rfl) (fun _ _ _ h => h) (Or.inl ⟨by rfl, ?_⟩) ?_ ?_
       rotate_left
       ·intro w'
        go_simp
        with_reducible rfl
       rotate_left
       ·simp only [Act.put, zA, zZ, zS, aH, aI]
        rfl
       refine jM (by kernel_rfl) ?_
       go_wp2_with fail
       try rw [hw3]
       refine ⟨⟨j, o2, A10, c10, m, D, ?_, rfl, by omega, by omega, ⟨?_⟩, HGD, ⟨(Sep.drop1 (Sep.drop2 KP))⟩⟩, by simp [intOf] <;> omega⟩
       ·rfl
       ·rw [HO2.out, HO.out, HDJ.out, dA, if_pos ⟨HAK.out, ⟨HEM.out, H80.out⟩, HCN.out.symm⟩, List.reverse_cons]
      ·
       have HC0 := aA.mk hc0
       have hcb : ((cn : Int) == 0) = false := by simpa using hc0
       have hcp : ¬ (cn : Int) = 0 := by omega
       clear hc0
       go_wp2_with fail
       try rw [hw3]
       refine ⟨⟨j, o, Ao, co, m, D, rfl, rfl, by omega, by omega, ⟨?_⟩, HGD, ⟨(Sep.dV H.out)⟩⟩, by simp [intOf] <;> omega⟩
       rw [HO.out, HDJ.out, dA, if_neg (fun h => HC0.out (HCN.out.trans h.2.2))]
     ·
      have H80 := aA.mk h80
      have hb3 : ∀ h : 0 < x.f1.size, ¬ ((x.f1[0]'h).toNat : Int) = 80 := fun h e => h80 ((hba h).symm.trans e)
      clear hba h80 hem
      go_wp2_with fail
      try rw [hw3]
      refine ⟨⟨j, o, Ao, co, m, D, rfl, rfl, by omega, by omega, ⟨?_⟩, HGD, ⟨(Sep.dV H.out)⟩⟩, by simp [intOf] <;> omega⟩
      rw [HO.out, HDJ.out, dA, if_neg (fun h => H80.out h.2.1.2)]
end Go.Proofs.U
namespace Go.Proofs.U
open Go.RowKit Go.Proofs.YW.PrintWords Go.Proofs.YW.PrintLast Go.Proofs.YW.PrintMore Go.Proofs.Sp Go.Proofs.fG
def fuN (fu : Int) : Int := if 0 < fu then wrap64 (fu - 1) else fu
theorem IC {l : List S67} {fu : Int} {s : ByteArray} (h : bF l = true) (hi : kR l s (bsOf l s) = true) :
  fE l false fu (-1) s = if fu = 0 then (l, true, fu, -1, 17) else (l.take (bsOf l s) ++ l.drop (bsOf l s + 1), false, fuN fu, -1, 0) := by
 simp [fE, bU, h, hi, fuN]
theorem qb5 {l : List S67} {fu : Int} {s : ByteArray} {x : S67} {e : Nat} (h : bF l = true) (hi : kR l s (bsOf l s) = true) (hx : l[bsOf l s]? = some x) (he : e ≤ x.f1.size) :
  DL l false fu (-1) s (e : Int) = if fu = 0 then (l, true, fu, -1, 17) else (l.set (bsOf l s) ⟨x.f0, x.f1.extract 0 e, (e : Int)⟩, false, fuN fu, -1, 0) := by
 have hrf : rfT (e : Int) l (bsOf l s : Int) (kR l s (bsOf l s)) = 0 := by
  rw [rfT, hi, if_pos rfl, iC hx, if_neg (by omega)]
 rw [DL]
 simp [bU, h, hrf, fuN, iC hx]
def rmL : List S67 → List Pl → List S67
 | l, [] => l
 | l, p :: r => rmL (l.take (bsOf l p.1.f0) ++ l.drop (bsOf l p.1.f0 + 1)) r
theorem NR : ∀ (g : List Pl) (l : List S67), bF l = true → bF (rmL l g) = true
 | [], l, h => h
 | p :: g, l, h => NR g _ (sK h _)
theorem KZ : ∀ (g : List Pl) (l : List S67) (front : List Pl), bF l = true → aK l = front ++ g.reverse → aK (rmL l g) = front
 | [], l, front, h, hp => by
  rw [List.reverse_nil, List.append_nil] at hp
  exact hp
 | p :: g, l, front, h, hp => by
  have hp' : aK l = (front ++ g.reverse) ++ p :: [] := by rw [hp]; simp
  exact KZ g _ front (sK h _) (by rw [oP h hp']; simp)
theorem Y0 : ∀ (gs : List Pl) (L : Lg) (front : List Pl), aK L.l = front ++ gs.reverse → bF L.l = true → L.dn = false → L.fa = -1 →
  (∃ fu', oD L gs = (⟨rmL L.l gs, false, fu', -1, L.size, L.fr, L.nx, L.br⟩, 0) ∧ (L.fu = -1 → fu' = -1)) ∨
  (L.fu ≠ -1 ∧ ∃ g1 g2 R, gs = g1 ++ g2 ∧ oD L gs = (R, 17) ∧ R.l = rmL L.l g1 ∧ R.br = true)
 | [], ⟨l, dn, fu, fa, size, fr, nx, br⟩, front, hp, hr, hd, ha => by
  simp only at hd ha
  subst hd ha
  exact .inl ⟨fu, rfl, fun h => h⟩
 | p :: gs, ⟨l, dn, fu, fa, size, fr, nx, br⟩, front, hp, hr, hd, ha => by
  simp only at hd ha hp hr
  subst hd ha
  have hp' : aK l = (front ++ gs.reverse) ++ p :: [] := by rw [hp]; simp
  obtain ⟨g1, g2, _⟩ := iM hr hp'
  have hc := IC (fu := fu) hr g2
  by_cases hf : fu = 0
  ·subst hf
   rw [if_pos rfl] at hc
   refine .inr ⟨by show (0 : Int) ≠ -1; decide, [], p :: gs, chg ⟨l, false, 0, -1, size, fr, nx, br⟩ (l, true, 0, -1, 17), rfl, ?_, rfl, rfl⟩
   rw [oD]
   simp only [hc]
   rfl
  ·rw [if_neg hf] at hc
   have hstep : oD ⟨l, false, fu, -1, size, fr, nx, br⟩ (p :: gs) = oD ⟨l.take (bsOf l p.1.f0) ++ l.drop (bsOf l p.1.f0 + 1), false, fuN fu, -1, size, fr, nx, br⟩ gs := by
    rw [oD]
    simp only [hc]
    rfl
   have hp2 := oP hr hp'
   rw [List.append_nil] at hp2
   rcases Y0 gs ⟨l.take (bsOf l p.1.f0) ++ l.drop (bsOf l p.1.f0 + 1), false, fuN fu, -1, size, fr, nx, br⟩ front hp2 (sK hr _) rfl rfl with ⟨fu', h1, h2⟩ | ⟨h0, a, b, R, h1, h2, h3, h4⟩
   ·exact .inl ⟨fu', by rw [hstep, h1]; rfl, fun e => h2 (by show fuN fu = -1; rw [show fu = -1 from e]; decide)⟩
   ·exact .inr ⟨fun e => h0 (by show fuN fu = -1; rw [show fu = -1 from e]; decide), p :: a, b, R, by rw [h1]; rfl, by rw [hstep, h2], h3, h4⟩
theorem find_spec (l : List S67) : ∃ front, aK l = front ++ (findF l).gone ∧ (front = [] → (findF l).gone = []) ∧ ((findF l).qY = none ∨ ∃ a p e, (findF l).qY = some (p, e) ∧ front = a ++ [p] ∧ e < p.1.f1.size) := by
 obtain ⟨kept, ds, m, hc, hh⟩ := xW SU (aK l) (dL (aK l))
 have e : findF l = goF SU (aK l) (dL (aK l)) := rfl
 rw [← e] at hh
 rcases hh with ⟨a1, a2, a3, a4, a5⟩ | ⟨p, e, dt, a1, a2, a3, a4, a5, a6, a7⟩
 ·refine ⟨kept, a2, fun hk => ?_, .inl a1⟩
  subst hk
  obtain ⟨_, rfl⟩ := hc
  cases hg : (findF l).gone with
  | nil => rfl
  | cons p r =>
   exact absurd (by rw [a2, hg]; rfl) (a5 p r hg)
 ·refine ⟨kept ++ [p], by rw [a2]; simp, fun hk => by simp at hk, .inr ⟨kept, p, e, a1, rfl, a5⟩⟩
noncomputable def VZ (l : List S67) : List S67 := match (findF l).qY with
 | none => rmL l (findF l).gone.reverse
 | some x => (rmL l (findF l).gone.reverse).set (bsOf (rmL l (findF l).gone.reverse) x.1.1.f0) ⟨x.1.1.f0, x.1.1.f1.extract 0 x.2, (x.2 : Int)⟩
theorem qax {l : List S67} {size : Int} (fu : Int) (hr : bF l = true) (h0 : 1 ≤ size) (h1 : size ≤ 262144) :
  (∃ fu', iR l false fu (-1) size = (⟨VZ l, false, fu', -1, size, (dL (aK l) : Int), ((findF l).next : Int), false⟩, bM (findF l).recs (dL (aK l)), 0) ∧ (fu = -1 → fu' = -1)) ∨
  (fu ≠ -1 ∧ ∃ g1 g2 R, (findF l).gone.reverse = g1 ++ g2 ∧ iR l false fu (-1) size = (R, [], 17) ∧ R.l = rmL l g1 ∧ R.br = true) := by
 obtain ⟨front, hf, _, ht⟩ := find_spec l
 have hopen : iR l false fu (-1) size = ((iD ⟨l, false, fu, -1, size, 0, 0, false⟩ (findF l) (dL (aK l))).1, if (iD ⟨l, false, fu, -1, size, 0, 0, false⟩ (findF l) (dL (aK l))).2 = 0 then bM (findF l).recs (dL (aK l)) else [],
   (iD ⟨l, false, fu, -1, size, 0, 0, false⟩ (findF l) (dL (aK l))).2) := by
  rw [iR, if_pos hr, if_neg (by omega), if_neg (by simp)]
 rw [hopen]
 rcases Y0 (findF l).gone.reverse ⟨l, false, fu, -1, size, 0, 0, false⟩ front (by rw [List.reverse_reverse]; exact hf) hr rfl rfl with ⟨fu', e1, e2⟩ | ⟨e0, g1, g2, R, e1, e2, e3, e4⟩
 ·simp only at e1 e2
  rcases ht with ht | ⟨a, p, e, ht, hfr, he⟩
  ·have hD : iD ⟨l, false, fu, -1, size, 0, 0, false⟩ (findF l) (dL (aK l)) = (⟨VZ l, false, fu', -1, size, (dL (aK l) : Int), ((findF l).next : Int), false⟩, 0) := by
    rw [iD, e1, ht, VZ, ht]
    simp [oQ]
   rw [hD]
   exact .inl ⟨fu', by rw [if_pos rfl], e2⟩
  ·have hpl : aK (rmL l (findF l).gone.reverse) = a ++ p :: [] := by
    rw [KZ _ l front hr (by rw [List.reverse_reverse]; exact hf), hfr]
   have hr2 := NR (findF l).gone.reverse l hr
   obtain ⟨k1, k2, _⟩ := iM hr2 hpl
   have hc := qb5 (fu := fu') (e := e) hr2 k2 k1 (by omega)
   by_cases hz : fu' = 0
   ·have hD : iD ⟨l, false, fu, -1, size, 0, 0, false⟩ (findF l) (dL (aK l)) = (⟨rmL l (findF l).gone.reverse, true, fu', -1, size, 0, 0, true⟩, 17) := by
     rw [iD, e1, ht]
     rw [if_pos hz] at hc
     simp only [oQ, hc, chg, if_true]
     rw [if_neg (by decide)]
     rfl
    rw [hD]
    exact .inr ⟨fun h => by have := e2 h; omega, (findF l).gone.reverse, [], _, by simp, by rw [if_neg (by simp)], rfl, rfl⟩
   ·have hD : iD ⟨l, false, fu, -1, size, 0, 0, false⟩ (findF l) (dL (aK l)) = (⟨VZ l, false, fuN fu', -1, size, (dL (aK l) : Int), ((findF l).next : Int), false⟩, 0) := by
     rw [iD, e1, ht]
     rw [if_neg hz] at hc
     simp only [oQ, hc, chg, if_true]
     rw [VZ, ht]
    rw [hD]
    exact .inl ⟨fuN fu', by rw [if_pos rfl], fun h => by rw [e2 h]; decide⟩
 ·have hD : iD ⟨l, false, fu, -1, size, 0, 0, false⟩ (findF l) (dL (aK l)) = (R, 17) := by
   rw [iD, e2, if_neg (by simp)]
  rw [hD]
  exact .inr ⟨e0, g1, g2, R, e1, by rw [if_neg (by simp)], e3, e4⟩
theorem NS {l : List S67} {size : Int} (hr : bF l = true) (h0 : 1 ≤ size) (h1 : size ≤ 262144) :
  iR l false (-1) (-1) size = (⟨VZ l, false, -1, -1, size, (dL (aK l) : Int), ((findF l).next : Int), false⟩, bM (findF l).recs (dL (aK l)), 0) := by
 rcases qax (-1) hr h0 h1 with ⟨fu', h, h2⟩ | ⟨h, _⟩
 ·rw [h, h2 rfl]
 ·exact absurd rfl h
theorem TP : ∀ (a b : List Bytes) (n : Nat), bM a n = bM b n → a = b
 | [], [], _, _ => rfl
 | [], d :: b, n, h => by simp [bM] at h
 | d :: a, [], n, h => by simp [bM] at h
 | d :: a, e :: b, n, h => by
  simp only [bM, List.cons.injEq, S62.mk.injEq, true_and] at h
  have hd := congrArg byt h.1
  rw [qE, qE] at hd
  rw [hd, TP a b _ h.2]
theorem QH {l : List S67} {size : Int} (hr : bF l = true) (h0 : 1 ≤ size) (h1 : size ≤ 262144) :
  WF ⟨VZ l, false, -1, -1, size, (dL (aK l) : Int), ((findF l).next : Int), false⟩ (findF l).recs (dL (aK l)) (findF l).next := by
 obtain ⟨ds, n, m, hw, hrs, _⟩ := BA (NS hr h0 h1)
 have h2 : dL (aK l) = n := by have := hw.fr; simp only at this; omega
 have h3 : (findF l).next = m := by have := hw.nx; simp only at this; omega
 rw [h2] at hrs
 rw [TP _ _ _ hrs, h3]
 rw [h2, h3] at hw
 rw [h2]
 exact hw
def Sy (l : List S67) : Prop := ∀ x ∈ l, (x.f1.size : Int) = x.f2
theorem vT {l : List S67} (h : Sy l) (ks : List Int) : dG l ks = l := by
 apply List.ext_getElem?
 intro i
 cases e : l[i]? with
 | none => rw [List.getElem?_eq_none (by rw [iT]; exact List.getElem?_eq_none_iff.1 e)]
 | some x => rw [AO e, G8 (h x (List.mem_of_getElem? e))]
theorem qb6 {l : List S67} (h : bF l = true) (ks : List Int) : Sy (dG l ks) := by
 intro y hy
 obtain ⟨i, x, hx, rfl⟩ := NM hy
 exact (NK (((iH l).1 h).2.1 x (List.mem_of_getElem? hx)) _).2
theorem tV {l : List S67} {dn : Bool} {fu fa : Int} {s : ByteArray} {wr : Bool} {rf : Int → Bool → Int} {df : Int → List S67} (hr : bF l = true) (h : (bU l dn fu fa s wr rf df).2.2.2.2 ≠ 0) :
  (bU l dn fu fa s wr rf df).1 = l ∨ (wr = true ∧ rf (bsOf l s) (kR l s (bsOf l s)) = 0 ∧ (bU l dn fu fa s wr rf df).1 = df (bsOf l s)) := by
 unfold bU at h ⊢
 rw [if_pos hr] at h ⊢
 split
 ·exact .inl rfl
 ·split
  ·rename_i hrf
   split
   ·exact .inl rfl
   ·split
    ·cases wr
     ·exact .inl rfl
     ·exact .inr ⟨rfl, hrf, rfl⟩
    ·rename_i h1 h2 h3
     rw [if_neg (by assumption), if_pos hrf, if_neg h2, if_neg h3] at h
     exact absurd rfl h
  ·exact .inl rfl
structure Wet (l : List S67) (ds : List Bytes) (n m : Nat) (d : ByteArray) : Prop where
 right : bF l = true
 ex : ∃ (a : List Pl) (p : Pl) (t : ByteArray), aK l = a ++ [((⟨p.1.f0, p.1.f1 ++ t, p.1.f2⟩ : S67), p.2)] ∧ chain SU n (a ++ [p]) ds m ∧ dL (a ++ [p]) = n ∧ (p.1.f1.size : Int) = p.1.f2 ∧ byt t = frame SU m (byt d) ∧ ∀ x ∈ l, x.f0.toList ≠ p.1.f0.toList → (x.f1.size : Int) = x.f2
structure Back (l : List S67) (es : List Bytes) (n : Nat) : Prop where
 right : bF l = true
 sy : Sy l
 first : dL (aK l) = n
 recs : (findF l).recs = es
 next : (findF l).next = n + es.length
theorem WF.back {L : Lg} {ds : List Bytes} {n m : Nat} (h : WF L ds n m) (hs : Sy L.l) : Back L.l ds n :=
 ⟨h.right, hs, h.first, by rw [h.find], by rw [h.find]; exact l9 SU n _ ds m h.ch⟩
theorem qeG {y : Pl} {k : Nat} (h : y.2 = k) : (goF SU [y] k).recs = (readB SU (byt y.1.f1) k).1 ∧ (goF SU [y] k).next = k + (readB SU (byt y.1.f1) k).1.length := by
 rw [goF, if_pos h]
 split
 ·exact ⟨rfl, rfl⟩
 ·simp [goF]
theorem qdq {l : List S67} {n m j : Nat} {a : List Pl} {p y : Pl} {ds : List Bytes} {d : ByteArray} (hr : bF l = true) (hs : Sy l) (hp : aK l = a ++ [y]) (hch : chain SU n (a ++ [p]) ds m) (hf : dL (a ++ [p]) = n) (hk : y.2 = p.2)
  (hb : byt y.1.f1 = byt p.1.f1 ++ (frame SU m (byt d)).take j) (hd : d.size ≤ 65536) (hm : m < most) : Back l ds n ∨ Back l (ds ++ [byt d]) n := by
 have hfn : dL (aK l) = n := by
  rw [hp, ← hf]
  cases a with
  | nil => exact hk
  | cons q r => rfl
 obtain ⟨d1, d2, k, c1, c2, c3⟩ := uH SU n a [p] ds m hch
 have hnk := l9 SU n _ d1 k c1
 obtain ⟨c4, e1, e2, rfl, c5, c6⟩ := c2
 obtain ⟨rfl, c7⟩ := c6
 obtain ⟨w1, w2⟩ := rH c5
 have hread := wI SU e1 k ((frame SU m (byt d)).take j) w2 (by omega)
 rw [← w1, ← hb, ← c7] at hread
 have hgo := EU SU n a [y] d1 k c1
 obtain ⟨o1, o2⟩ := qeG (y := y) (k := k) (hk.trans c4)
 have hF : findF l = goF SU (a ++ [y]) n := by rw [findF, hfn, hp]
 rw [hgo] at hF
 have hfl := gZ SU m (byt d)
 by_cases hj : j < (frame SU m (byt d)).length
 ·left
  have hno : readB SU ((frame SU m (byt d)).take j) m = ([], 0) := AP (RX SU (by rw [dD]; exact hd) hj)
  rw [hno] at hread
  refine ⟨hr, hs, hfn, ?_, ?_⟩
  ·rw [hF, c3]
   simp only [o1, hread, List.append_nil]
  ·rw [hF, c3]
   simp only [o2, hread, List.append_nil, List.length_append]
   omega
 ·right
  have hyes : readB SU ((frame SU m (byt d)).take j) m = ([byt d], 16 + d.size) := by
   rw [List.take_of_length_le (by omega)]
   have := xU SU (n := m) (d := byt d) (r := []) (by rw [dD]; exact hd) hm
   rw [List.append_nil] at this
   rw [this, dD]
   rfl
  rw [hyes] at hread
  refine ⟨hr, hs, hfn, ?_, ?_⟩
  ·rw [hF, c3]
   simp only [o1, hread, List.append_nil, List.append_assoc]
  ·rw [hF, c3]
   simp only [o2, hread, List.append_nil, List.length_append, List.length_singleton]
   omega
theorem FV {l : List S67} {ds : List Bytes} {n m : Nat} {d : ByteArray} (h : Wet l ds n m d) (hd : d.size ≤ 65536) (hm : m < most) (ks : List Int) : Back (dG l ks) ds n ∨ Back (dG l ks) (ds ++ [byt d]) n := by
 have hr := h.right
 obtain ⟨a, p, t, h1, h2, h3, h4, h5, h6⟩ := h.ex
 obtain ⟨y, hy⟩ : ∃ y : S67, y = ⟨p.1.f0, p.1.f1 ++ t, p.1.f2⟩ := ⟨_, rfl⟩
 rw [← hy] at h1
 have hyn : y.f0 = p.1.f0 := by rw [hy]
 have h1' : aK l = a ++ ((y, p.2) : Pl) :: [] := h1
 obtain ⟨g1, g2, _⟩ := iM hr h1'
 simp only at g1 g2
 have hc : dG l ks = l.set (bsOf l y.f0) (rO y ks[bsOf l y.f0]?) := by
  apply List.ext_getElem?
  intro i
  cases e : l[i]? with
  | none =>
   have := List.getElem?_eq_none_iff.1 e
   rw [List.getElem?_eq_none (by rw [iT]; exact this), List.getElem?_eq_none (by rw [List.length_set]; exact this)]
  | some x =>
   have hil := (List.getElem?_eq_some_iff.1 e).1
   rw [AO e]
   by_cases hi : bsOf l y.f0 = i
   ·subst hi
    rw [g1] at e
    injection e with e
    subst e
    rw [List.getElem?_set_self hil]
   ·rw [List.getElem?_set_ne hi, e, G8 (h6 x (List.mem_of_getElem? e) fun e2 => hi (JX hr g1 e (by rw [hyn]; exact e2.symm)))]
 have hpl : aK (dG l ks) = a ++ [((rO y ks[bsOf l y.f0]?, p.2) : Pl)] := by
  rw [hc]
  exact qL hr h1' rfl
 have hok := o8 hr g1
 have hrange := wH hok.2.2.1 hok.2.2.2 ks[bsOf l y.f0]?
 have hy2 : y.f2 = (p.1.f1.size : Int) := by rw [hy]; exact h4.symm
 refine qdq (j := (lZ y ks[bsOf l y.f0]?).toNat - p.1.f1.size) (TL hr ks) (qb6 hr ks) hpl h2 h3 rfl ?_ hd hm
 show byt (y.f1.extract 0 (lZ y ks[bsOf l y.f0]?).toNat) = _
 rw [qX, List.drop_zero, ← h5]
 have : byt y.f1 = byt p.1.f1 ++ byt t := by rw [hy]; exact wJ _ _
 rw [this, List.take_append, List.take_of_length_le (by rw [dD]; omega), dD]
theorem qfC {l : List S67} {z : S67} {s : List UInt8} (h : bF l = true) (hz : z ∈ l) (hn : z.f0.toList = s) (h1 : (z.f1.size : Int) = z.f2) (h2 : ∀ x ∈ l, x.f0.toList ≠ s → (x.f1.size : Int) = x.f2) : Sy l := by
 intro x hx
 by_cases e : x.f0.toList = s
 ·obtain ⟨i, hi⟩ := List.getElem?_of_mem hx
  obtain ⟨j, hj⟩ := List.getElem?_of_mem hz
  have := JX h hi hj (e.trans hn.symm)
  subst this
  rw [hi] at hj
  injection hj with hj
  rw [hj]
  exact h1
 ·exact h2 x hx e
theorem LC {L R : Lg} {ds : List Bytes} {n m k : Nat} (h : WF L ds n m) (hs : Sy L.l) (hR : jD L k = (R, 0)) : Sy R.l := by
 unfold jD at hR
 split at hR
 ·obtain ⟨hs1, hz⟩ := Prod.mk.inj hR
  obtain ⟨h1, h2, h3, h4, h5⟩ := jY hz
  rw [← hs1]
  show Sy (jW L.l L.dn L.fu L.fa (nameB L.nx.toNat)).1
  rw [jW, h4]
  intro x hx
  rcases (I4 _ _ _).1 hx with rfl | hx
  ·rfl
  ·exact hs x hx
 ·obtain ⟨rfl, _⟩ := Prod.mk.inj hR
  exact hs
theorem TQ {L R : Lg} {ds : List Bytes} {n m k : Nat} {e : Int} (h : WF L ds n m) (hR : jD L k = (R, e)) (he : e ≠ 0) : R.l = L.l := by
 unfold jD at hR
 split at hR
 ·obtain ⟨hs1, hz⟩ := Prod.mk.inj hR
  rw [← hs1]
  show (jW L.l L.dn L.fu L.fa (nameB L.nx.toNat)).1 = L.l
  rcases tV h.right (by show (jW L.l L.dn L.fu L.fa (nameB L.nx.toNat)).2.2.2.2 ≠ 0; rw [hz]; exact he) with h1 | ⟨h1, _⟩
  ·exact h1
  ·cases h1
 ·exact absurd (Prod.mk.inj hR).2.symm he
theorem FW {L : Lg} {ds : List Bytes} {n m : Nat} {a : List Pl} {p : Pl} (s : ByteArray) (h : WF L ds n m) (hp : aK L.l = a ++ [p]) :
  (fF L p.1.f0 s).1.l = L.l.set (bsOf L.l p.1.f0) ⟨p.1.f0, p.1.f1 ++ s, p.1.f2⟩ ∧ bF (L.l.set (bsOf L.l p.1.f0) ⟨p.1.f0, p.1.f1 ++ s, p.1.f2⟩) = true ∨ (fF L p.1.f0 s).2 ≠ 0 ∧ (fF L p.1.f0 s).1.l = L.l := by
 have hp' : aK L.l = a ++ p :: [] := hp
 obtain ⟨g1, g2, _⟩ := iM h.right hp'
 have key : rfW s L.l (bsOf L.l p.1.f0) (kR L.l p.1.f0 (bsOf L.l p.1.f0)) = 0 → bF (L.l.set (bsOf L.l p.1.f0) ⟨p.1.f0, p.1.f1 ++ s, p.1.f2⟩) = true := by
  intro h3
  have hg := (yB h.right s h3).1
  simpa only [Int.toNat_natCast, iC g1] using hg
 by_cases hz : (jA L.l L.dn L.fu L.fa p.1.f0 s).2.2.2.2 = 0
 ·obtain ⟨h1, h2, h3, h4, h5⟩ := jY hz
  refine .inl ⟨?_, key h3⟩
  show (jA L.l L.dn L.fu L.fa p.1.f0 s).1 = _
  rw [jA, h4]
  simp only [Int.toNat_natCast, iC g1]
 ·rcases tV h.right hz with h1 | ⟨_, h3, h4⟩
  ·exact .inr ⟨hz, h1⟩
  ·refine .inl ⟨?_, key h3⟩
   show (jA L.l L.dn L.fu L.fa p.1.f0 s).1 = _
   rw [jA, h4]
   simp only [Int.toNat_natCast, iC g1]
theorem Y1 {L : Lg} {ds : List Bytes} {n m : Nat} {a : List Pl} {p : Pl} {s d : ByteArray} (h : WF L ds n m) (hs : Sy L.l) (hp : aK L.l = a ++ [p]) (hb : byt s = frame SU m (byt d)) (hr : bF (L.l.set (bsOf L.l p.1.f0) ⟨p.1.f0, p.1.f1 ++ s, p.1.f2⟩) = true) :
  Wet (L.l.set (bsOf L.l p.1.f0) ⟨p.1.f0, p.1.f1 ++ s, p.1.f2⟩) ds n m d := by
 have hp' : aK L.l = a ++ p :: [] := hp
 obtain ⟨g1, g2, _⟩ := iM h.right hp'
 refine ⟨hr, a, p, s, qL h.right hp' rfl, by rw [← hp]; exact h.ch, by rw [← hp]; exact h.first, hs p.1 (List.mem_of_getElem? g1), hb, fun x hx hne => ?_⟩
 exact hs x ((mem_set (y := ⟨p.1.f0, p.1.f1 ++ s, p.1.f2⟩) (z := x) h.right g1 rfl hne).1 hx)
theorem qb7 {L R : Lg} {ds : List Bytes} {n m : Nat} {a : List Pl} {p : Pl} {s : ByteArray} (h : WF L ds n m) (hs : Sy L.l) (hp : aK L.l = a ++ [p]) (hR : pY L s = (R, 0)) : Sy R.l := by
 unfold pY at hR
 rw [sQ hp] at hR
 split at hR
 case isFalse hz => exact absurd (by rw [hR]) hz
 rename_i hz
 split at hR
 case isFalse hz2 => exact absurd (by rw [hR]) hz2
 rename_i hz2
 obtain ⟨hR, _⟩ := Prod.mk.inj hR
 have hp' : aK L.l = a ++ p :: [] := hp
 obtain ⟨g1, g2, _⟩ := iM h.right hp'
 rcases FW s h hp with ⟨e1, e2⟩ | ⟨e1, _⟩
 case inr => exact absurd hz e1
 obtain ⟨y, hy⟩ : ∃ y : S67, y = ⟨p.1.f0, p.1.f1 ++ s, p.1.f2⟩ := ⟨_, rfl⟩
 rw [← hy] at e1 e2
 have hyn : y.f0 = p.1.f0 := by rw [hy]
 have hp2 : aK (fF L p.1.f0 s).1.l = a ++ ((y, p.2) : Pl) :: [] := by rw [e1]; exact qL h.right hp' hyn
 have hr2 : bF (fF L p.1.f0 s).1.l = true := by rw [e1]; exact e2
 obtain ⟨j1, j2, _⟩ := iM hr2 hp2
 simp only [hyn] at j1 j2
 have hz2' : (tC (fF L p.1.f0 s).1.l (fF L p.1.f0 s).1.dn (fF L p.1.f0 s).1.fu (fF L p.1.f0 s).1.fa p.1.f0).2.2.2.2 = 0 := hz2
 obtain ⟨h1, h2, h3, h4, h5⟩ := jY hz2'
 have e3 : R.l = (fF L p.1.f0 s).1.l.set (bsOf (fF L p.1.f0 s).1.l p.1.f0) ⟨y.f0, y.f1, (y.f1.size : Int)⟩ := by
  rw [← hR]
  show (tC (fF L p.1.f0 s).1.l (fF L p.1.f0 s).1.dn (fF L p.1.f0 s).1.fu (fF L p.1.f0 s).1.fa p.1.f0).1 = _
  rw [tC, h4]
  simp only [Int.toNat_natCast, iC j1]
 have hr3 : bF R.l = true := by
  have hg := (NG hr2 j2).1
  simp only [Int.toNat_natCast, iC j1] at hg
  rw [e3]
  exact hg
 refine qfC (z := ⟨y.f0, y.f1, (y.f1.size : Int)⟩) (s := p.1.f0.toList) hr3 (by rw [e3]; exact OO j1) (by rw [← hyn]) rfl fun x hx hne => ?_
 rw [e3] at hx
 have hx2 := (mem_set (y := ⟨y.f0, y.f1, (y.f1.size : Int)⟩) (z := x) hr2 j1 rfl (by rw [hyn]; exact hne)).1 hx
 rw [e1] at hx2
 exact hs x ((mem_set (z := x) h.right g1 hyn hne).1 hx2)
theorem FX {L R : Lg} {ds : List Bytes} {n m : Nat} {d : ByteArray} (h : WF L ds n m) (hs : Sy L.l) (hR : dM L d = (R, 0)) : Sy R.l := by
 rw [dM, if_pos h.okL, jE, h.br, if_neg (by simp)] at hR
 split at hR
 ·cases hR
 split at hR
 ·cases hR
 split at hR
 case isFalse hz => exact absurd (by rw [hR]) hz
 rename_i hz
 obtain ⟨L1, hL1⟩ : ∃ L1, jD L (dR L.nx d).size = (L1, 0) := ⟨_, Prod.ext rfl hz⟩
 rw [hL1] at hR
 obtain ⟨w1, w2, w3, a, p, w4, w5⟩ := vP h hL1
 exact qb7 w1 (LC h hs hL1) w4 hR
theorem qay {L R : Lg} {ds : List Bytes} {n m : Nat} {d : ByteArray} {e : Int} (h : WF L ds n m) (hs : Sy L.l) (hR : dM L d = (R, e)) (he : e ≠ 0) :
  (∃ L1, WF L1 ds n m ∧ Sy L1.l ∧ R.l = L1.l) ∨ (Wet R.l ds n m d ∧ d.size ≤ 65536 ∧ m < most) := by
 rw [dM, if_pos h.okL, jE, h.br, if_neg (by simp)] at hR
 split at hR
 ·obtain ⟨rfl, _⟩ := Prod.mk.inj hR
  exact .inl ⟨L, h, hs, rfl⟩
 rename_i hd
 split at hR
 ·obtain ⟨rfl, _⟩ := Prod.mk.inj hR
  exact .inl ⟨L, h, hs, rfl⟩
 rename_i hm
 have hm2 : m < most := by
  rw [h.nx] at hm
  unfold most
  omega
 split at hR
 case isFalse hz => exact .inl ⟨L, h, hs, TQ h hR he⟩
 rename_i hz
 obtain ⟨L1, hL1⟩ : ∃ L1, jD L (dR L.nx d).size = (L1, 0) := ⟨_, Prod.ext rfl hz⟩
 rw [hL1] at hR
 obtain ⟨w1, w2, w3, a, p, w4, w5⟩ := vP h hL1
 have hs1 := LC h hs hL1
 have hb : byt (dR L.nx d) = frame SU m (byt d) := by rw [h.nx]; exact pG m d
 simp only at hR
 unfold pY at hR
 rw [sQ w4] at hR
 have hset := FW (dR L.nx d) w1 w4
 have hw := Y1 w1 hs1 w4 hb
 split at hR
 ·rename_i hz1
  rcases hset with ⟨e1, e2⟩ | ⟨e1, _⟩
  case inr => exact absurd hz1 e1
  split at hR
  ·exact absurd (Prod.mk.inj hR).2.symm he
  ·rename_i hz2
   have e3 : R.l = (fF L1 p.1.f0 (dR L.nx d)).1.l := by
    have : R = (stepS (fF L1 p.1.f0 (dR L.nx d)).1 p.1.f0).1 := by rw [hR]
    rw [this]
    have hr2 : bF (fF L1 p.1.f0 (dR L.nx d)).1.l = true := by rw [e1]; exact e2
    rcases tV hr2 hz2 with k1 | ⟨k1, _⟩
    ·exact k1
    ·cases k1
   refine .inr ⟨?_, by omega, hm2⟩
   rw [e3, e1]
   exact hw e2
 ·rename_i hz1
  have hRR : R = (fF L1 p.1.f0 (dR L.nx d)).1 := by rw [hR]
  rcases hset with ⟨e1, e2⟩ | ⟨_, e1⟩
  ·refine .inr ⟨?_, by omega, hm2⟩
   rw [hRR, e1]
   exact hw e2
  ·exact .inl ⟨L1, w1, hs1, by rw [hRR, e1]⟩
theorem uI {L R : Lg} {ds : List Bytes} {n m : Nat} {d : ByteArray} {e : Int} (h : WF L ds n m) (hs : Sy L.l) (hR : dM L d = (R, e)) (ks : List Int) :
  bF R.l = true ∧ (e = 0 → WF R (ds ++ [byt d]) n (m + 1) ∧ Sy R.l ∧ Back (dG R.l ks) (ds ++ [byt d]) n) ∧ (Back (dG R.l ks) ds n ∨ Back (dG R.l ks) (ds ++ [byt d]) n) := by
 by_cases he : e = 0
 ·subst he
  obtain ⟨w1, _⟩ := FQ h hR
  have hsy := FX h hs hR
  have hb : Back (dG R.l ks) (ds ++ [byt d]) n := by rw [vT hsy]; exact w1.back hsy
  exact ⟨w1.right, fun _ => ⟨w1, hsy, hb⟩, .inr hb⟩
 ·rcases qay h hs hR he with ⟨L1, k1, k2, k3⟩ | ⟨k1, k2, k3⟩
  ·refine ⟨by rw [k3]; exact k1.right, fun e0 => absurd e0 he, .inl ?_⟩
   rw [k3, vT k2]
   exact k1.back k2
  ·exact ⟨k1.right, fun e0 => absurd e0 he, FV k1 k2 k3 ks⟩
theorem Back.opens {l : List S67} {es : List Bytes} {n : Nat} {size : Int} (h : Back l es n) (h0 : 1 ≤ size) (h1 : size ≤ 262144) :
  ∃ M, iR l false (-1) (-1) size = (M, bM es n, 0) ∧ WF M es n (n + es.length) ∧ M.fu = -1 ∧ M.fa = -1 ∧ M.size = size := by
 have hw := QH h.right h0 h1
 have ho := NS h.right h0 h1
 rw [h.first, h.recs, h.next] at hw ho
 exact ⟨_, ho, hw, rfl, rfl, rfl⟩
theorem BH {l : List S67} {s : ByteArray} {wr : Bool} {rf : Int → Bool → Int} {df : Int → List S67} (hr : bF l = true) : (bU l false (-1) (-1) s wr rf df).2.2.1 = -1 ∧ (bU l false (-1) (-1) s wr rf df).2.2.2.1 = -1 := by
 rw [qM hr]
 split <;> exact ⟨rfl, rfl⟩
theorem NT {L R : Lg} {ds : List Bytes} {n m : Nat} {d : ByteArray} (h : WF L ds n m) (hu : L.fu = -1) (ha : L.fa = -1) (hR : dM L d = (R, 0)) : R.fu = -1 ∧ R.fa = -1 := by
 rw [dM, if_pos h.okL, jE, h.br, if_neg (by simp)] at hR
 split at hR
 ·cases hR
 split at hR
 ·cases hR
 split at hR
 case isFalse hz => exact absurd (by rw [hR]) hz
 rename_i hd hm hz
 obtain ⟨L1, hL1⟩ : ∃ L1, jD L (dR L.nx d).size = (L1, 0) := ⟨_, Prod.ext rfl hz⟩
 rw [hL1] at hR
 obtain ⟨w1, w2, w3, a, p, w4, w5⟩ := vP h hL1
 have h1 : L1.fu = -1 ∧ L1.fa = -1 := by
  unfold jD at hL1
  split at hL1
  ·obtain ⟨hs1, _⟩ := Prod.mk.inj hL1
   rw [← hs1, hu, ha, h.dn]
   exact BH h.right
  ·obtain ⟨rfl, _⟩ := Prod.mk.inj hL1
   exact ⟨hu, ha⟩
 simp only at hR
 unfold pY at hR
 rw [sQ w4] at hR
 split at hR
 case isFalse hz1 => exact absurd (by rw [hR]) hz1
 rename_i hz1
 split at hR
 case isFalse hz2 => exact absurd (by rw [hR]) hz2
 rename_i hz2
 obtain ⟨hR, _⟩ := Prod.mk.inj hR
 have h2 : (fF L1 p.1.f0 (dR L.nx d)).1.fu = -1 ∧ (fF L1 p.1.f0 (dR L.nx d)).1.fa = -1 := by
  rw [fF, h1.1, h1.2, w1.dn]
  exact BH w1.right
 have hp' : aK L1.l = a ++ p :: [] := w4
 obtain ⟨k1, k2, k3, k4⟩ := BF (L := L1) hp' hz1
 have k1' : bF (fF L1 p.1.f0 (dR L.nx d)).1.l = true := k1
 have k3' : (fF L1 p.1.f0 (dR L.nx d)).1.dn = false := k3
 rw [← hR]
 show (stepS (fF L1 p.1.f0 (dR L.nx d)).1 p.1.f0).1.fu = -1 ∧ (stepS (fF L1 p.1.f0 (dR L.nx d)).1 p.1.f0).1.fa = -1
 rw [stepS, h2.1, h2.2, k3']
 exact BH k1'
theorem qeH (d : ByteArray) : (⟨(byt d).toArray⟩ : ByteArray) = d := qN (qE _)
theorem WF.refuse {L : Lg} {ds : List Bytes} {n m : Nat} (h : WF L ds n m) (fu fa : Int) : WF { L with fu := fu, fa := fa } ds n m :=
 ⟨h.right, h.dn, h.br, h.lo, h.hi, h.first, h.ch, h.top, h.fr, h.nx⟩
theorem Y2 (q : Int) : ∀ (ps : List Pl) (L : Lg) (ds : List Bytes) (n m : Nat), aK L.l = ps → bF L.l = true → L.dn = false → L.fu = -1 → L.fa = -1 → L.br = false → chain SU n ps ds m →
  ∃ R rest d0 d1, eF L ps q = (R, 0, rest) ∧ aK R.l = rest ∧ bF R.l = true ∧ R.dn = false ∧ R.fu = -1 ∧ R.fa = -1 ∧ R.br = false ∧ R.size = L.size ∧ R.nx = L.nx ∧ R.fr = L.fr ∧ ds = d0 ++ d1 ∧ chain SU (n + d0.length) rest d1 m ∧
   (rest = [] → ps = []) ∧ (d0 = [] ∨ ((n + d0.length : Nat) : Int) ≤ q) ∧ (Sy L.l → Sy R.l)
 | [], L, ds, n, m, hp, hr, hd, hu, ha, hb, hc => ⟨L, [], [], ds, rfl, hp, hr, hd, hu, ha, hb, rfl, rfl, rfl, rfl, hc, fun _ => rfl, .inl rfl, fun h => h⟩
 | [p], L, ds, n, m, hp, hr, hd, hu, ha, hb, hc => ⟨L, [p], [], ds, rfl, hp, hr, hd, hu, ha, hb, rfl, rfl, rfl, rfl, hc, fun h => h, .inl rfl, fun h => h⟩
 | p :: p2 :: r, ⟨l, dn, fu, fa, size, fr, nx, br⟩, ds, n, m, hp, hr, hd, hu, ha, hb, hc => by
  simp only at hp hr hd hu ha hb
  subst hd hu ha hb
  by_cases hq : (p2.2 : Int) ≤ q
  ·have hp' : aK l = [] ++ p :: (p2 :: r) := hp
   obtain ⟨g1, g2, _⟩ := iM hr hp'
   have hcm := IC (fu := -1) hr g2
   rw [if_neg (by decide)] at hcm
   have hstep : eF ⟨l, false, -1, -1, size, fr, nx, false⟩ (p :: p2 :: r) q = eF ⟨l.take (bsOf l p.1.f0) ++ l.drop (bsOf l p.1.f0 + 1), false, -1, -1, size, fr, nx, false⟩ (p2 :: r) q := by
    rw [eF, if_pos hq]
    simp only [hcm]
    rfl
   obtain ⟨c1, e1, e2, rfl, c2, c3⟩ := hc
   obtain ⟨R, rest, d0, d1, k1, k2, k3, k4, k5, k6, k7, k8, k9, k10, k11, k12, k13, k14, k15⟩ := Y2 q (p2 :: r) ⟨l.take (bsOf l p.1.f0) ++ l.drop (bsOf l p.1.f0 + 1), false, -1, -1, size, fr, nx, false⟩ e2 (n + e1.length) m (oP hr hp') (sK hr _) rfl rfl rfl rfl c3
   refine ⟨R, rest, e1 ++ d0, d1, by rw [hstep, k1], k2, k3, k4, k5, k6, k7, k8, k9, k10, by rw [k11, List.append_assoc], ?_, fun h => (by cases k13 h), .inr ?_, fun hs => k15 fun x hx => ?_⟩
   ·rw [List.length_append, ← Nat.add_assoc]
    exact k12
   ·rcases k14 with rfl | k14
    ·have := c3.1
     rw [List.append_nil]
     omega
    ·rw [List.length_append, ← Nat.add_assoc]
     exact k14
   ·rcases List.mem_append.1 hx with h | h
    ·exact hs x (List.mem_of_mem_take h)
    ·exact hs x (List.mem_of_mem_drop h)
  ·exact ⟨_, p :: p2 :: r, [], ds, by rw [eF, if_neg hq], hp, hr, rfl, rfl, rfl, rfl, rfl, rfl, rfl, rfl, hc, fun h => h, .inl rfl, fun h => h⟩
theorem qb8 {L : Lg} {ds : List Bytes} {n m : Nat} {q : Int} (h : WF L ds n m) (hu : L.fu = -1) (ha : L.fa = -1) (hq : q ≤ L.nx) :
  ∃ R d0 d1, kT L q = (R, 0) ∧ WF R d1 (n + d0.length) m ∧ ds = d0 ++ d1 ∧ (d0 = [] ∨ ((n + d0.length : Nat) : Int) ≤ q) ∧ R.size = L.size ∧ R.fu = -1 ∧ R.fa = -1 ∧ (Sy L.l → Sy R.l) := by
 obtain ⟨R, rest, d0, d1, k1, k2, k3, k4, k5, k6, k7, k8, k9, k10, k11, k12, k13, k14, k15⟩ := Y2 q (aK L.l) L ds n m rfl h.right h.dn hu ha h.br h.ch
 have hfr : yD R rest = { R with fr := ((n + d0.length : Nat) : Int) } := by
  cases rest with
  | nil =>
   have hps := k13 rfl
   have hc := h.ch
   rw [hps] at hc
   obtain ⟨hc1, _⟩ := hc
   rw [hc1] at k11
   have h0 : d0 = [] := (List.append_eq_nil_iff.1 k11.symm).1
   subst h0
   show R = _
   have : R.fr = ((n + ([] : List Bytes).length : Nat) : Int) := by rw [k10, h.fr]; rfl
   rw [← this]
  | cons p r =>
   show { R with fr := (p.2 : Int) } = _
   rw [k12.1]
 refine ⟨yD R rest, d0, d1, ?_, ?_, k11, k14, ?_, ?_, ?_, ?_⟩
 ·rw [kT, if_pos h.okL, uQ, h.br, if_neg (by simp), if_neg (by omega), k1]
  simp
 ·rw [hfr]
  refine ⟨k3, k4, k7, by show 1 ≤ R.size; rw [k8]; exact h.lo, by show R.size ≤ 262144; rw [k8]; exact h.hi, ?_, by show chain SU _ (aK R.l) d1 m; rw [k2]; exact k12, h.top, rfl, by show R.nx = _; rw [k9]; exact h.nx⟩
  show dL (aK R.l) = _
  rw [k2]
  cases rest with
  | nil =>
   have hps := k13 rfl
   have hf := h.first
   have hc := h.ch
   rw [hps] at hf hc
   obtain ⟨hc1, _⟩ := hc
   rw [hc1] at k11
   have h0 : d0 = [] := (List.append_eq_nil_iff.1 k11.symm).1
   subst h0
   exact hf
  | cons p r => exact k12.1
 ·rw [hfr]; exact k8
 ·rw [hfr]; exact k5
 ·rw [hfr]; exact k6
 ·rw [hfr]; exact k15
theorem zQ (S : Sum) : ∀ (n : Nat) (ds : List Bytes), 16 * ds.length ≤ (fO S n ds).length
 | n, [] => by simp [fO]
 | n, d :: r => by
  have := zQ S (n + 1) r
  simp only [fO, List.length_append, gZ, List.length_cons]
  omega
theorem IE : ∀ (n : Nat) (a : List Pl) (ds : List Bytes) (m : Nat), chain SU n a ds m → (∀ p ∈ a, p.1.f1.size ≤ 262144) → ds.length ≤ 16384 * a.length
 | n, [], ds, m, h, _ => by obtain ⟨rfl, _⟩ := h; simp
 | n, p :: r, ds, m, h, hs => by
  obtain ⟨h1, d1, d2, rfl, h3, h4⟩ := h
  have h5 := IE _ r d2 m h4 (fun q hq => hs q (List.mem_cons_of_mem _ hq))
  have h6 := hs p (List.mem_cons_self ..)
  have h7 := zQ SU n d1
  rw [← (rH h3).1, dD] at h7
  simp only [List.length_append, List.length_cons]
  omega
theorem WF.few {L : Lg} {ds : List Bytes} {n m : Nat} (h : WF L ds n m) : ds.length ≤ 1048576 := by
 have h1 := IE n _ ds m h.ch (fun p hp => (((iH L.l).1 h.right).2.1 p.1 (oG.1 hp).1).2.1)
 have h2 := oZ L.l
 have h3 := kK h.right
 omega
noncomputable def kN (l : List S67) (dn : Bool) (fu fa size most : Int) : Qu × Int :=
 if bF l = true then
  if most < 1 ∨ 1024 < most then (Qz, 2)
  else if (iR l dn fu fa size).2.2 = 0 then
   (if 1024 < (dA (iR l dn fu fa size).2.1).length then (Qz, 3) else (⟨(iR l dn fu fa size).1, dA (iR l dn fu fa size).2.1, most⟩, 0))
  else if (iR l dn fu fa size).1.br = true then (⟨(iR l dn fu fa size).1, [], most⟩, (iR l dn fu fa size).2.2)
  else (Qz, (iR l dn fu fa size).2.2)
 else (Qz, 6)
theorem V3 {ds : List fG.Bytes} {n : Nat} (h : n + ds.length ≤ 4611686018427387904) : ∀ x ∈ bM ds n, 0 ≤ x.f0 ∧ x.f0 < 18446744073709551616 := by
 intro x hx
 obtain ⟨i, hi⟩ := List.getElem?_of_mem hx
 have h1 := DZ ds n i x hi
 have h2 := (List.getElem?_eq_some_iff.1 hi).1
 rw [pI] at h2
 rw [h1]
 omega
theorem qaz {l : List S67} {dn : Bool} {fu fa size : Int} {R : Lg} {rs : List S62} (h : iR l dn fu fa size = (R, rs, 0)) : rs.length ≤ 1048576 ∧ ∀ x ∈ rs, 0 ≤ x.f0 ∧ x.f0 < 18446744073709551616 := by
 obtain ⟨ds, n, m, hw, rfl, _⟩ := BA h
 have h1 := l9 SU n _ ds m hw.ch
 have h2 := hw.top
 unfold most at h2
 exact ⟨by rw [pI]; exact hw.few, V3 (by omega)⟩
set_option maxHeartbeats 8000000 in
theorem vU (A : Option Addr) (c : Nat) (l : List S67) (dn : Bool) (fu fa size most : Int) (w : World) (hr : Kd.C k67 w A l.length l) (hc : l.length ≤ c) (hG : Gl w) :
  Calls Tryz.prog 18 #[.agg #[.slice A l.length c, .bool dn, .int .i64 fu, .int .i64 fa], .int .i64 size, .int .i64 most] w fun e w' => ∃ A' c' B' d', e = .returned (.tuple #[.agg (qc A' c' B' d' (kN l dn fu fa size most).1).toArray, .int .i64 (kN l dn fu fa size most).2])
   ∧ aA (Sep w w' [oJ A' c' (kN l dn fu fa size most).1.L.l, qH B' d' (kN l dn fu fa size most).1.es]) := by
 have HRp := aA.mk hr
 have HCp := aA.mk hc
 have HG := aA.mk hG
 clear hr hc hG
 obtain ⟨O, hO⟩ : ∃ O, O = kN l dn fu fa size most := ⟨_, rfl⟩
 rw [← hO]
 have HO := aA.mk hO
 clear hO
 have H := aA.mk (Sep.start w)
 go_enter Tryz.func18, Tryz.ntmps18
 go_wp2_with (first
 |((with_reducible refine aP (N := 3) rfl ?_);
   refine bG rfl H (cs := [.slice A l.length c, .bool dn, .int .i64 fu, .int .i64 fa]) (t := 27) ?hr ?_;
   (case hr => first | (go_simp; done) | (go_simp; rfl));
   intro gd wd1 n_;
   simp only [Act.put, zA, zZ, zS];
   clear H;
   have H := n_;
   clear n_;
   have c_d := H.out.cell (g := gd) aJ)
 |((with_reducible refine aP (N := 6) rfl ?_);
   refine bG rfl H (cs := [.slice none 0 0, .bool false, .int .i64 0, .int .i64 0, .int .i64 0, .int .u64 0, .int .u64 0, .bool false, .slice none 0 0, .int .i64 0]) (t := 33) ?hr ?_;
   (case hr => first | (go_simp; done) | (go_simp; rfl));
   intro gz wd2 n_;
   simp only [Act.put, zA, zZ, zS];
   clear H c_d;
   have H := n_;
   clear n_;
   have c_z := H.out.cell (g := gz) aJ;
   have z_z := H.out.frozen (g := gz) aJ;
   have c_d := H.out.cell (g := gd) mem1)
 |fail)
 by_cases hok : bF l = true
 ·
  refine ((dK.calls A c l dn fu fa 0 _ (H.out.came HRp.out) HCp.out (by rw [dK.f, if_pos hok])).mono ?_)
  rintro e wd3 ⟨rfl, hb_⟩
  have n_ : aA (Sep w wd3 [box gz [.slice none 0 0, .bool false, .int .i64 0, .int .i64 0, .int .i64 0, .int .u64 0, .int .u64 0, .bool false, .slice none 0 0, .int .i64 0] 33, box gd [.slice A l.length c, .bool dn, .int .i64 fu, .int .i64 fa] 27]) := ⟨H.out.step hb_⟩
  clear H c_z z_z c_d
  have H := n_
  clear n_
  have c_z := H.out.cell (g := gz) aJ
  have z_z := H.out.frozen (g := gz) aJ
  have c_d := H.out.cell (g := gd) mem1
  clear hb_
  have HOK := aA.mk hok
  clear hok
  by_cases hm1 : most < 1
  ·
   have hOV : O = (Qz, 2) := by rw [HO.out, kN, if_pos HOK.out, if_pos (.inl hm1)]
   go_wp2_with (first
 |((with_reducible refine aN (t := 33) (p := 6) rfl ?_);
   refine aZ (rs1 := [box gz [.slice none 0 0, .bool false, .int .i64 0, .int .i64 0, .int .i64 0, .int .u64 0, .int .u64 0, .bool false, .slice none 0 0, .int .i64 0] 33, box gd [.slice A l.length c, .bool dn, .int .i64 fu, .int .i64 fa] 27]) rfl (t := 33) (p := 6) rfl rfl ?hr (H1 := (Sep.set0 (Sep.set0 (Sep.set0 (Sep.set0 (Sep.set0 (Sep.set0 (Sep.set0 (Sep.set0 (Sep.set0 (Sep.set0 H.out 0 (.slice none 0 0) rfl) 1 (.bool false) rfl) 2 (.int .i64 0) rfl) 3 (.int .i64 0) rfl) 4 (.int .i64 0) rfl) 5 (.int .u64 0) rfl) 6 (.int .u64 0) rfl) 7 (.bool false) rfl) 8 (.slice none 0 0) rfl) 9 (.int .i64 0) rfl)) ?_;
   (case hr => first | (go_simp; done) | (go_simp; rfl));
   intro wd4 n_;
   clear H c_z z_z c_d;
   have H := n_;
   clear n_;
   have c_z := H.out.cell (g := gz) aJ;
   have z_z := H.out.frozen (g := gz) aJ;
   have c_d := H.out.cell (g := gd) mem1)
 |fail)
   refine bodyPost_ret (dB (rs := [.cell 6 33, .tmp 7]) rfl (by simp) (.cell gz 33 _ _ _ rfl (H.out.jK (g := gz) aJ) Tryz.underlying33 rfl info33 (.tmp .nil))) rfl ?_
   subst hOV
   exact ⟨none, 0, none, 0, rfl, ⟨Sep.eG (Sep.eG (Sep.dV (Sep.drop1 H.out)))⟩⟩
  ·
   by_cases hm2 : 1024 < most
   ·
    have hOV : O = (Qz, 2) := by rw [HO.out, kN, if_pos HOK.out, if_pos (.inr hm2)]
    go_wp2_with (first
 |((with_reducible refine aN (t := 33) (p := 6) rfl ?_);
   refine aZ (rs1 := [box gz [.slice none 0 0, .bool false, .int .i64 0, .int .i64 0, .int .i64 0, .int .u64 0, .int .u64 0, .bool false, .slice none 0 0, .int .i64 0] 33, box gd [.slice A l.length c, .bool dn, .int .i64 fu, .int .i64 fa] 27]) rfl (t := 33) (p := 6) rfl rfl ?hr (H1 := (Sep.set0 (Sep.set0 (Sep.set0 (Sep.set0 (Sep.set0 (Sep.set0 (Sep.set0 (Sep.set0 (Sep.set0 (Sep.set0 H.out 0 (.slice none 0 0) rfl) 1 (.bool false) rfl) 2 (.int .i64 0) rfl) 3 (.int .i64 0) rfl) 4 (.int .i64 0) rfl) 5 (.int .u64 0) rfl) 6 (.int .u64 0) rfl) 7 (.bool false) rfl) 8 (.slice none 0 0) rfl) 9 (.int .i64 0) rfl)) ?_;
   (case hr => first | (go_simp; done) | (go_simp; rfl));
   intro wd5 n_;
   clear H c_z z_z c_d;
   have H := n_;
   clear n_;
   have c_z := H.out.cell (g := gz) aJ;
   have z_z := H.out.frozen (g := gz) aJ;
   have c_d := H.out.cell (g := gd) mem1)
 |fail)
    refine bodyPost_ret (dB (rs := [.cell 6 33, .tmp 7]) rfl (by simp) (.cell gz 33 _ _ _ rfl (H.out.jK (g := gz) aJ) Tryz.underlying33 rfl info33 (.tmp .nil))) rfl ?_
    subst hOV
    exact ⟨none, 0, none, 0, rfl, ⟨Sep.eG (Sep.eG (Sep.dV (Sep.drop1 H.out)))⟩⟩
   ·
    have HM : aA (¬ (most < 1 ∨ 1024 < most)) := ⟨by omega⟩
    obtain ⟨R, rs, e, hOF⟩ : ∃ R rs e, iR l dn fu fa size = (R, rs, e) := ⟨_, _, _, rfl⟩
    have HOP := aA.mk (fun A c w hr hc hG => open_any A c l dn fu fa size w hr hc hG)
    rw [hOF] at HOP
    dsimp only at HOP
    have HOF := aA.mk hOF
    clear hOF
    go_wp2_with fail
    refine ((HOP.out A c _ (H.out.came HRp.out) HCp.out (HG.out.below H.out.below)).mono ?_)
    rintro e wd6 ⟨A1, c1, A2, c2, rfl, HJ⟩
    have n_ : aA (Sep w wd6 [row k67 67 (.slice A1 (R.l).length c1) R.l, row k62 62 (.slice A2 (rs).length c2) rs, box gz [.slice none 0 0, .bool false, .int .i64 0, .int .i64 0, .int .i64 0, .int .u64 0, .int .u64 0, .bool false, .slice none 0 0, .int .i64 0] 33, box gd [.slice A l.length c, .bool dn, .int .i64 fu, .int .i64 fa] 27]) := ⟨eY H.out HJ.out⟩
    clear H c_z z_z c_d
    have H := n_
    clear n_
    have c_z := H.out.cell (g := gz) mem2
    have z_z := H.out.frozen (g := gz) mem2
    have c_d := H.out.cell (g := gd) mem3
    clear HJ
    simp only [lgc]
    clear HOP
    clear c_z z_z c_d
    have c_z := H.out.cell (g := gz) mem2
    have z_z := H.out.frozen (g := gz) mem2
    have c_d := H.out.cell (g := gd) mem3
    by_cases hz : e = 0
    ·
     subst hz
     have HRL := aA.mk (qaz HOF.out)
     obtain ⟨es, hes⟩ : ∃ es, es = dA rs := ⟨_, rfl⟩
     have HES := aA.mk hes
     have hOV : O = if 1024 < es.length then (Qz, 3) else (⟨R, es, most⟩, 0) := by rw [HO.out, kN, if_pos HOK.out, if_neg HM.out, HOF.out, if_pos rfl, hes]
     have HOV := aA.mk hOV
     clear HO hOV hes
     go_upto_region 11 with (first
 |((with_reducible refine aP (N := 9) rfl ?_);
   refine bG rfl H (cs := [.slice none 0 0, .bool false, .int .i64 0, .int .i64 0, .int .i64 0, .int .u64 0, .int .u64 0, .bool false]) (t := 30) ?hr ?_;
   (case hr => first | (go_simp; done) | (go_simp; rfl));
   intro gb wd7 n_;
   simp only [Act.put, zA, zZ, zS];
   clear H c_z z_z c_d;
   have H := n_;
   clear n_;
   have c_b := H.out.cell (g := gb) aJ;
   have z_b := H.out.frozen (g := gb) aJ;
   have c_z := H.out.cell (g := gz) mem3;
   have z_z := H.out.frozen (g := gz) mem3;
   have c_d := H.out.cell (g := gd) bK)
 |((with_reducible refine aN (t := 30) (p := 9) rfl ?_);
   refine aZ (rs1 := [box gb [.slice A1 R.l.length c1, .bool R.dn, .int .i64 R.fu, .int .i64 R.fa, .int .i64 R.size, .int .u64 R.fr, .int .u64 R.nx, .bool R.br] 30, row k67 67 (.slice A1 (R.l).length c1) R.l, row k62 62 (.slice A2 (rs).length c2) rs, box gz [.slice none 0 0, .bool false, .int .i64 0, .int .i64 0, .int .i64 0, .int .u64 0, .int .u64 0, .bool false, .slice none 0 0, .int .i64 0] 33, box gd [.slice A l.length c, .bool dn, .int .i64 fu, .int .i64 fa] 27]) rfl (t := 30) (p := 9) rfl rfl ?hr (H1 := (Sep.set0 (Sep.set0 (Sep.set0 (Sep.set0 (Sep.set0 (Sep.set0 (Sep.set0 (Sep.set0 H.out 0 (.slice A1 R.l.length c1) rfl) 1 (.bool R.dn) rfl) 2 (.int .i64 R.fu) rfl) 3 (.int .i64 R.fa) rfl) 4 (.int .i64 R.size) rfl) 5 (.int .u64 R.fr) rfl) 6 (.int .u64 R.nx) rfl) 7 (.bool R.br) rfl)) ?_;
   (case hr => first | (go_simp; done) | (go_simp; rfl));
   intro wd8 n_;
   clear H c_b z_b c_z z_z c_d;
   have H := n_;
   clear n_;
   have c_b := H.out.cell (g := gb) aJ;
   have z_b := H.out.frozen (g := gb) aJ;
   have c_z := H.out.cell (g := gz) mem3;
   have z_z := H.out.frozen (g := gz) mem3;
   have c_d := H.out.cell (g := gd) bK)
 |fail)
     refine gX (n := 7) (S := fun w' => (∀ j : Nat, w'.cell? ⟨gb, j, none⟩ = [.slice A1 R.l.length c1, .bool R.dn, .int .i64 R.fu, .int .i64 R.fa, .int .i64 R.size, .int .u64 R.fr, .int .u64 R.nx, .bool R.br][j]?) ∧ Sp.Sep w w' [box gb [.slice A1 R.l.length c1, .bool R.dn, .int .i64 R.fu, .int .i64 R.fa, .int .i64 R.size, .int .u64 R.fr, .int .u64 R.nx, .bool R.br] 30, row k67 67 (.slice A1 (R.l).length c1) R.l, row k62 62 (.slice A2 (rs).length c2) rs, box gz [.slice none 0 0, .bool false, .int .i64 0, .int .i64 0, .int .i64 0, .int .u64 0, .int .u64 0, .bool false, .slice none 0 0, .int .i64 0] 33, box gd [.slice A l.length c, .bool dn, .int .i64 fu, .int .i64 fa] 27]) (ds := [6]) #[false, false, false, false, false, false, false] (by kernel_rfl) rfl rfl ⟨(fun j => ((Sep.drew H.out)).cell (g := gb) aJ j), (Sep.drew H.out)⟩ (fun hHeld => ?_)
     refine puS (i := 1) (N := some 51) (v := ?_) (a' := ?_) rfl rfl (by kernel_rfl) (fun _ _ _ h => h) (Or.inl ⟨by rfl, ?_⟩) ?_ ?_
     rotate_left
     ·intro w'
      go_simp
      with_reducible rfl
     rotate_left
     ·simp only [Act.put, zA, zZ, zS, aH, aI]
      rfl
     refine puS (i := 3) (N := some 53) (v := ?_) (a' := ?_) rfl rfl (by kernel_rfl) (fun _ _ _ h => h) (Or.inl ⟨by rfl, ?_⟩) ?_ ?_
     rotate_left
     ·intro w'
      go_simp
      with_reducible rfl
     rotate_left
     ·simp only [Act.put, zA, zZ, zS, aH, aI]
      rfl
     refine tkS (i := 0) (N := some 50) (v := ?_) (a' := ?_) rfl rfl (by kernel_rfl) (fun _ _ _ h => h) (Or.inl ⟨by rfl, ?_⟩) hHeld ?_ ?_
     rotate_left
     ·rintro w' ⟨s0, s1⟩
      go_simp
      with_reducible rfl
     rotate_left
     ·simp only [Act.put, zA, zZ, zS, aH, aI]
      rfl
     refine qeR (σ := Nat × Option Addr × Nat) 1 #[true, true, true, true, true, true, false] (fun s => [(52, .slice s.2.1 es.length s.2.2), (54, .agg #[.slice A1 R.l.length c1, .bool R.dn, .int .i64 R.fu, .int .i64 R.fa, .int .i64 R.size, .int .u64 R.fr, .int .u64 R.nx, .bool R.br, .slice s.2.1 es.length s.2.2, .int .i64 most]), (12, .pointer (some ⟨s.1, 0, none⟩))]) (fun s w' => (∀ j : Nat, w'.cell? ⟨gb, j, none⟩ = [.slice A1 R.l.length c1, .bool R.dn, .int .i64 R.fu, .int .i64 R.fa, .int .i64 R.size, .int .u64 R.fr, .int .u64 R.nx, .bool R.br][j]?) ∧ Sp.Sep w w' (box s.1 [.slice none 0 0, .bool false, .int .i64 0, .int .i64 0, .int .i64 0, .int .u64 0, .int .u64 0, .bool false, .slice none 0 0, .int .i64 0] 33 :: row k41 41 (.slice s.2.1 es.length s.2.2) es :: [box gb [.slice A1 R.l.length c1, .bool R.dn, .int .i64 R.fu, .int .i64 R.fa, .int .i64 R.size, .int .u64 R.fr, .int .u64 R.nx, .bool R.br] 30, row k67 67 (.slice A1 (R.l).length c1) R.l, row k62 62 (.slice A2 (rs).length c2) rs, box gz [.slice none 0 0, .bool false, .int .i64 0, .int .i64 0, .int .i64 0, .int .u64 0, .int .u64 0, .bool false, .slice none 0 0, .int .i64 0] 33, box gd [.slice A l.length c, .bool dn, .int .i64 fu, .int .i64 fa] 27])) ?_ ?_
     rotate_left
     ·intro qdO
      refine qhK (i := 2) (j := 5) (Ni := some 52) (Nj := some 12) #[true, true, true, true, false, false, false] #[true, true, false, true, false, true, false] rfl rfl rfl rfl (by kernel_rfl) (by decide) (by decide) (fun K hK => ?_) (fun K hK => ?_)
      ·skip
       refine qP Tryz.func51 (by kernel_rfl) rfl #[.slice A2 rs.length c2] (by rfl) rfl rfl (by simp only [List.map_toArray, List.map_cons, List.map_nil]; rfl) ?_
       with_reducible refine (IB A2 c2 rs _ (Sep.reads (A := A2) hHeld.2 mem2).2.2 HRL.out.1 HRL.out.2).mono ?_
       rintro e w70 ⟨A7, c7, rfl, HJ⟩
       have hS2 := eY hHeld.2 HJ.out
       rw [← HES.out] at hS2 ⊢
       refine ⟨_, rfl, ?_⟩
       refine hK.out _ _ ⟨(fun j => (hS2).cell (g := gb) mem1 j), (hS2).dV⟩ (fun hHeld => ?_)
       clear hK K
       refine fU (a' := ?_) ?_ ?_
       rotate_left
       ·show Act.put _ (some 52) _ = _
        simp only [Act.put, zA, zZ, zS, aH, aI]
        rfl
       refine puS (i := 4) (N := some 54) (v := ?_) (a' := ?_) rfl rfl (by kernel_rfl) (fun _ _ _ h => h) (Or.inl ⟨by rfl, ?_⟩) ?_ ?_
       rotate_left
       ·intro w'
        go_simp
        with_reducible rfl
       rotate_left
       ·simp only [Act.put, zA, zZ, zS, aH, aI]
        rfl
       refine onS (i := 5) (N := some 12) rfl rfl (by kernel_rfl) (by decide) (fun K hK => ?_)
       refine JD (N := some 12) (by rfl) rfl hS2 [.slice none 0 0, .bool false, .int .i64 0, .int .i64 0, .int .i64 0, .int .u64 0, .int .u64 0, .bool false, .slice none 0 0, .int .i64 0] 33 ?_ ?_
       ·first | (go_simp; done) | (go_simp; rfl)
       intro g12 qjg hS5
       refine hK.out _ _ ⟨(fun j => (hS5).cell (g := gb) mem2 j), (hS5).dV.dV⟩ (fun hHeld => ?_)
       clear hK K
       refine fU (a' := ?_) ?_ ?_
       rotate_left
       ·show Act.put _ (some 12) _ = _
        simp only [Act.put, zA, zZ, zS, aH, aI]
        rfl
       exact fU (by simp only [EP, Act.put, zA, zZ, zS]) (qdO ⟨g12, A7, c7⟩ _ ⟨(fun j => ((hS5).dV.dV).cell (g := gb) aJ j), hS5⟩)
      ·skip
       refine JD (N := some 12) (by rfl) rfl hHeld.2 [.slice none 0 0, .bool false, .int .i64 0, .int .i64 0, .int .i64 0, .int .u64 0, .int .u64 0, .bool false, .slice none 0 0, .int .i64 0] 33 ?_ ?_
       ·first | (go_simp; done) | (go_simp; rfl)
       intro g12 qjh hS5
       refine hK.out _ _ ⟨(fun j => (hS5).cell (g := gb) mem1 j), (hS5).dV⟩ (fun hHeld => ?_)
       clear hK K
       refine fU (a' := ?_) ?_ ?_
       rotate_left
       ·show Act.put _ (some 12) _ = _
        simp only [Act.put, zA, zZ, zS, aH, aI]
        rfl
       refine onS (i := 2) (N := some 52) rfl rfl (by kernel_rfl) (by decide) (fun K hK => ?_)
       refine qP Tryz.func51 (by kernel_rfl) rfl #[.slice A2 rs.length c2] (by rfl) rfl rfl (by simp only [List.map_toArray, List.map_cons, List.map_nil]; rfl) ?_
       with_reducible refine (IB A2 c2 rs _ (Sep.reads (A := A2) hS5 mem3).2.2 HRL.out.1 HRL.out.2).mono ?_
       rintro e w71 ⟨A7, c7, rfl, HJ⟩
       have hS2 := eY hS5 HJ.out
       rw [← HES.out] at hS2 ⊢
       refine ⟨_, rfl, ?_⟩
       refine hK.out _ _ ⟨(fun j => (hS2).cell (g := gb) mem2 j), (hS2).dV.dV⟩ (fun hHeld => ?_)
       clear hK K
       refine fU (a' := ?_) ?_ ?_
       rotate_left
       ·show Act.put _ (some 52) _ = _
        simp only [Act.put, zA, zZ, zS, aH, aI]
        rfl
       refine puS (i := 4) (N := some 54) (v := ?_) (a' := ?_) rfl rfl (by kernel_rfl) (fun _ _ _ h => h) (Or.inl ⟨by rfl, ?_⟩) ?_ ?_
       rotate_left
       ·intro w'
        go_simp
        with_reducible rfl
       rotate_left
       ·simp only [Act.put, zA, zZ, zS, aH, aI]
        rfl
       exact fU (by simp only [EP, Act.put, zA, zZ, zS]) (qdO ⟨g12, A7, c7⟩ _ ⟨(fun j => ((hS2.iP).dV.dV).cell (g := gb) aJ j), hS2.iP⟩)
     rintro ⟨g12, A7, c7⟩ w18 ⟨qir, qaA⟩
     dsimp only at qaA ⊢
     have hHeld : (∀ j : Nat, w18.cell? ⟨gb, j, none⟩ = [.slice A1 R.l.length c1, .bool R.dn, .int .i64 R.fu, .int .i64 R.fa, .int .i64 R.size, .int .u64 R.fr, .int .u64 R.nx, .bool R.br][j]?) ∧ Sp.Sep w w18 [box gb [.slice A1 R.l.length c1, .bool R.dn, .int .i64 R.fu, .int .i64 R.fa, .int .i64 R.size, .int .u64 R.fr, .int .u64 R.nx, .bool R.br] 30, row k67 67 (.slice A1 (R.l).length c1) R.l, row k62 62 (.slice A2 (rs).length c2) rs, box gz [.slice none 0 0, .bool false, .int .i64 0, .int .i64 0, .int .i64 0, .int .u64 0, .int .u64 0, .bool false, .slice none 0 0, .int .i64 0] 33, box gd [.slice A l.length c, .bool dn, .int .i64 fu, .int .i64 fa] 27] := ⟨qir, qaA.dV.dV⟩
     have k18 := fun j => qaA.cell (g := g12) aJ j
     have f18 := fun j => qaA.frozen (g := g12) aJ j
     refine fU (a' := ?_) ?_ ?_
     rotate_left
     ·simp only [EP, Act.put, zA, zZ, zS]
      rfl
     refine laS (i := 6) (N := none) rfl rfl (by kernel_rfl) (by decide) (fun K hK => ?_)
     refine xK (w1 := ?_) (by rfl) rfl ?_ ?_
     rotate_left
     ·go_simp
      rfl
     refine hK.out _ _ ?_
     clear hK K
     refine jM (by kernel_rfl) ?_
     refine qQ (rs := [box g12 [.slice A1 R.l.length c1, .bool R.dn, .int .i64 R.fu, .int .i64 R.fa, .int .i64 R.size, .int .u64 R.fr, .int .u64 R.nx, .bool R.br, .slice A7 es.length c7, .int .i64 most] 33, row k41 41 (.slice A7 (es).length c7) es, box gb [.slice A1 R.l.length c1, .bool R.dn, .int .i64 R.fu, .int .i64 R.fa, .int .i64 R.size, .int .u64 R.fr, .int .u64 R.nx, .bool R.br] 30, row k67 67 (.slice A1 (R.l).length c1) R.l, row k62 62 (.slice A2 (rs).length c2) rs, box gz [.slice none 0 0, .bool false, .int .i64 0, .int .i64 0, .int .i64 0, .int .u64 0, .int .u64 0, .bool false, .slice none 0 0, .int .i64 0] 33, box gd [.slice A l.length c, .bool dn, .int .i64 fu, .int .i64 fa] 27]) (Sep.set0 (Sep.set0 (Sep.set0 (Sep.set0 (Sep.set0 (Sep.set0 (Sep.set0 (Sep.set0 (Sep.set0 (Sep.set0 qaA 0 (.slice A1 R.l.length c1) rfl) 1 (.bool R.dn) rfl) 2 (.int .i64 R.fu) rfl) 3 (.int .i64 R.fa) rfl) 4 (.int .i64 R.size) rfl) 5 (.int .u64 R.fr) rfl) 6 (.int .u64 R.nx) rfl) 7 (.bool R.br) rfl) 8 (.slice A7 es.length c7) rfl) 9 (.int .i64 most) rfl) ?_
     clear qaA k18 f18
     intro wd9 n_
     clear H c_b z_b c_z z_z c_d
     have H := n_
     clear n_
     have c_k := H.out.cell (g := g12) aJ
     have c_b := H.out.cell (g := gb) mem2
     have z_b := H.out.frozen (g := gb) mem2
     have c_z := H.out.cell (g := gz) dJ
     have z_z := H.out.frozen (g := gz) dJ
     have c_d := H.out.cell (g := gd) jC
     by_cases h24 : 1024 < es.length
     ·
      have qis : (1024 : Int) < (es.length : Int) := by omega
      have hOV := HOV.out
      rw [if_pos h24] at hOV
      go_wp2_with (first
 |((with_reducible refine aN (t := 33) (p := 6) rfl ?_);
   refine aZ (rs1 := [box g12 [.slice A1 R.l.length c1, .bool R.dn, .int .i64 R.fu, .int .i64 R.fa, .int .i64 R.size, .int .u64 R.fr, .int .u64 R.nx, .bool R.br, .slice A7 es.length c7, .int .i64 most] 33, row k41 41 (.slice A7 (es).length c7) es, box gb [.slice A1 R.l.length c1, .bool R.dn, .int .i64 R.fu, .int .i64 R.fa, .int .i64 R.size, .int .u64 R.fr, .int .u64 R.nx, .bool R.br] 30, row k67 67 (.slice A1 (R.l).length c1) R.l, row k62 62 (.slice A2 (rs).length c2) rs, box gz [.slice none 0 0, .bool false, .int .i64 0, .int .i64 0, .int .i64 0, .int .u64 0, .int .u64 0, .bool false, .slice none 0 0, .int .i64 0] 33, box gd [.slice A l.length c, .bool dn, .int .i64 fu, .int .i64 fa] 27]) rfl (t := 33) (p := 6) rfl rfl ?hr (H1 := (Sep.fZ (Sep.fZ (Sep.fZ (Sep.fZ (Sep.fZ (Sep.fZ (Sep.fZ (Sep.fZ (Sep.fZ (Sep.fZ H.out 0 (.slice none 0 0) rfl) 1 (.bool false) rfl) 2 (.int .i64 0) rfl) 3 (.int .i64 0) rfl) 4 (.int .i64 0) rfl) 5 (.int .u64 0) rfl) 6 (.int .u64 0) rfl) 7 (.bool false) rfl) 8 (.slice none 0 0) rfl) 9 (.int .i64 0) rfl)) ?_;
   (case hr => first | (go_simp; done) | (go_simp; rfl));
   intro FC n_;
   clear H c_k c_b z_b c_z z_z c_d;
   have H := n_;
   clear n_;
   have c_k := H.out.cell (g := g12) aJ;
   have c_b := H.out.cell (g := gb) mem2;
   have z_b := H.out.frozen (g := gb) mem2;
   have c_z := H.out.cell (g := gz) dJ;
   have z_z := H.out.frozen (g := gz) dJ;
   have c_d := H.out.cell (g := gd) jC)
 |fail)
      refine bodyPost_ret (dB (rs := [.cell 6 33, .tmp 7]) rfl (by simp) (.cell gz 33 _ _ _ rfl (H.out.jK (g := gz) dJ) Tryz.underlying33 rfl info33 (.tmp .nil))) rfl ?_
      subst hOV
      exact ⟨none, 0, none, 0, rfl, ⟨Sep.eG (Sep.eG (Sep.dV (Sep.drop1 (Sep.drop2 (Sep.gK (Sep.jO (Sep.rV (Sep.xA H.out))))))))⟩⟩
     ·
      have qis : ¬ (1024 : Int) < (es.length : Int) := by omega
      have hOV := HOV.out
      rw [if_neg h24] at hOV
      go_wp2_with (first
 |((with_reducible refine aN (t := 33) (p := 6) rfl ?_);
   refine aZ (rs1 := [box g12 [.slice A1 R.l.length c1, .bool R.dn, .int .i64 R.fu, .int .i64 R.fa, .int .i64 R.size, .int .u64 R.fr, .int .u64 R.nx, .bool R.br, .slice A7 es.length c7, .int .i64 most] 33, row k41 41 (.slice A7 (es).length c7) es, box gb [.slice A1 R.l.length c1, .bool R.dn, .int .i64 R.fu, .int .i64 R.fa, .int .i64 R.size, .int .u64 R.fr, .int .u64 R.nx, .bool R.br] 30, row k67 67 (.slice A1 (R.l).length c1) R.l, row k62 62 (.slice A2 (rs).length c2) rs, box gz [.slice A1 R.l.length c1, .bool R.dn, .int .i64 R.fu, .int .i64 R.fa, .int .i64 R.size, .int .u64 R.fr, .int .u64 R.nx, .bool R.br, .slice A7 es.length c7, .int .i64 most] 33, box gd [.slice A l.length c, .bool dn, .int .i64 fu, .int .i64 fa] 27]) rfl (t := 33) (p := 6) rfl rfl ?hr (H1 := (Sep.fZ (Sep.fZ (Sep.fZ (Sep.fZ (Sep.fZ (Sep.fZ (Sep.fZ (Sep.fZ (Sep.fZ (Sep.fZ H.out 0 (.slice A1 R.l.length c1) rfl) 1 (.bool R.dn) rfl) 2 (.int .i64 R.fu) rfl) 3 (.int .i64 R.fa) rfl) 4 (.int .i64 R.size) rfl) 5 (.int .u64 R.fr) rfl) 6 (.int .u64 R.nx) rfl) 7 (.bool R.br) rfl) 8 (.slice A7 es.length c7) rfl) 9 (.int .i64 most) rfl)) ?_;
   (case hr => first | (go_simp; done) | (go_simp; rfl));
   intro MH n_;
   clear H c_k c_b z_b c_z z_z c_d;
   have H := n_;
   clear n_;
   have c_k := H.out.cell (g := g12) aJ;
   have c_b := H.out.cell (g := gb) mem2;
   have z_b := H.out.frozen (g := gb) mem2;
   have c_z := H.out.cell (g := gz) dJ;
   have z_z := H.out.frozen (g := gz) dJ;
   have c_d := H.out.cell (g := gd) jC)
 |fail)
      refine bodyPost_ret (dB (rs := [.cell 6 33, .tmp 7]) rfl (by simp) (.cell gz 33 _ _ _ rfl (H.out.jK (g := gz) dJ) Tryz.underlying33 rfl info33 (.tmp .nil))) rfl ?_
      subst hOV
      exact ⟨A1, c1, A7, c7, rfl, ⟨(Sep.iP (Sep.dV (Sep.drop2 (Sep.jO (Sep.rV (Sep.xA H.out))))))⟩⟩
    ·
     cases hbr : R.br
     ·
      have hOV : O = (Qz, e) := by rw [HO.out, kN, if_pos HOK.out, if_neg HM.out, HOF.out]; simp only; rw [if_neg hz, hbr, if_neg (by simp)]
      go_wp2_with (first
 |((with_reducible refine aP (N := 9) rfl ?_);
   refine bG rfl H (cs := [.slice none 0 0, .bool false, .int .i64 0, .int .i64 0, .int .i64 0, .int .u64 0, .int .u64 0, .bool false]) (t := 30) ?hr ?_;
   (case hr => first | (go_simp; done) | (go_simp; rfl));
   intro gb DU n_;
   simp only [Act.put, zA, zZ, zS];
   clear H c_z z_z c_d;
   have H := n_;
   clear n_;
   have c_b := H.out.cell (g := gb) aJ;
   have z_b := H.out.frozen (g := gb) aJ;
   have c_z := H.out.cell (g := gz) mem3;
   have z_z := H.out.frozen (g := gz) mem3;
   have c_d := H.out.cell (g := gd) bK)
 |((with_reducible refine aN (t := 30) (p := 9) rfl ?_);
   refine aZ (rs1 := [box gb [.slice A1 R.l.length c1, .bool R.dn, .int .i64 R.fu, .int .i64 R.fa, .int .i64 R.size, .int .u64 R.fr, .int .u64 R.nx, .bool false] 30, row k67 67 (.slice A1 (R.l).length c1) R.l, row k62 62 (.slice A2 (rs).length c2) rs, box gz [.slice none 0 0, .bool false, .int .i64 0, .int .i64 0, .int .i64 0, .int .u64 0, .int .u64 0, .bool false, .slice none 0 0, .int .i64 0] 33, box gd [.slice A l.length c, .bool dn, .int .i64 fu, .int .i64 fa] 27]) rfl (t := 30) (p := 9) rfl rfl ?hr (H1 := (Sep.set0 (Sep.set0 (Sep.set0 (Sep.set0 (Sep.set0 (Sep.set0 (Sep.set0 (Sep.set0 H.out 0 (.slice A1 R.l.length c1) rfl) 1 (.bool R.dn) rfl) 2 (.int .i64 R.fu) rfl) 3 (.int .i64 R.fa) rfl) 4 (.int .i64 R.size) rfl) 5 (.int .u64 R.fr) rfl) 6 (.int .u64 R.nx) rfl) 7 (.bool false) rfl)) ?_;
   (case hr => first | (go_simp; done) | (go_simp; rfl));
   intro KI n_;
   clear H c_b z_b c_z z_z c_d;
   have H := n_;
   clear n_;
   have c_b := H.out.cell (g := gb) aJ;
   have z_b := H.out.frozen (g := gb) aJ;
   have c_z := H.out.cell (g := gz) mem3;
   have z_z := H.out.frozen (g := gz) mem3;
   have c_d := H.out.cell (g := gd) bK)
 |((with_reducible refine aN (t := 33) (p := 6) rfl ?_);
   refine aZ (rs1 := [box gb [.slice A1 R.l.length c1, .bool R.dn, .int .i64 R.fu, .int .i64 R.fa, .int .i64 R.size, .int .u64 R.fr, .int .u64 R.nx, .bool false] 30, row k67 67 (.slice A1 (R.l).length c1) R.l, row k62 62 (.slice A2 (rs).length c2) rs, box gz [.slice none 0 0, .bool false, .int .i64 0, .int .i64 0, .int .i64 0, .int .u64 0, .int .u64 0, .bool false, .slice none 0 0, .int .i64 0] 33, box gd [.slice A l.length c, .bool dn, .int .i64 fu, .int .i64 fa] 27]) rfl (t := 33) (p := 6) rfl rfl ?hr (H1 := (Sep.dZ (Sep.dZ (Sep.dZ (Sep.dZ (Sep.dZ (Sep.dZ (Sep.dZ (Sep.dZ (Sep.dZ (Sep.dZ H.out 0 (.slice none 0 0) rfl) 1 (.bool false) rfl) 2 (.int .i64 0) rfl) 3 (.int .i64 0) rfl) 4 (.int .i64 0) rfl) 5 (.int .u64 0) rfl) 6 (.int .u64 0) rfl) 7 (.bool false) rfl) 8 (.slice none 0 0) rfl) 9 (.int .i64 0) rfl)) ?_;
   (case hr => first | (go_simp; done) | (go_simp; rfl));
   intro U2 n_;
   clear H c_b z_b c_z z_z c_d;
   have H := n_;
   clear n_;
   have c_b := H.out.cell (g := gb) aJ;
   have z_b := H.out.frozen (g := gb) aJ;
   have c_z := H.out.cell (g := gz) mem3;
   have z_z := H.out.frozen (g := gz) mem3;
   have c_d := H.out.cell (g := gd) bK)
 |fail)
      refine bodyPost_ret (dB (rs := [.cell 6 33, .tmp 7]) rfl (by simp) (.cell gz 33 _ _ _ rfl (H.out.jK (g := gz) mem3) Tryz.underlying33 rfl info33 (.tmp .nil))) rfl ?_
      subst hOV
      exact ⟨none, 0, none, 0, rfl, ⟨Sep.eG (Sep.eG (Sep.dV (Sep.drop1 (Sep.drop2 (Sep.gK (Sep.jO H.out))))))⟩⟩
     ·
      have hOV : O = (⟨R, [], most⟩, e) := by rw [HO.out, kN, if_pos HOK.out, if_neg HM.out, HOF.out]; simp only; rw [if_neg hz, hbr, if_pos rfl]
      go_wp2_with (first
 |((with_reducible refine aP (N := 9) rfl ?_);
   refine bG rfl H (cs := [.slice none 0 0, .bool false, .int .i64 0, .int .i64 0, .int .i64 0, .int .u64 0, .int .u64 0, .bool false]) (t := 30) ?hr ?_;
   (case hr => first | (go_simp; done) | (go_simp; rfl));
   intro gb OV n_;
   simp only [Act.put, zA, zZ, zS];
   clear H c_z z_z c_d;
   have H := n_;
   clear n_;
   have c_b := H.out.cell (g := gb) aJ;
   have z_b := H.out.frozen (g := gb) aJ;
   have c_z := H.out.cell (g := gz) mem3;
   have z_z := H.out.frozen (g := gz) mem3;
   have c_d := H.out.cell (g := gd) bK)
 |((with_reducible refine aN (t := 30) (p := 9) rfl ?_);
   refine aZ (rs1 := [box gb [.slice A1 R.l.length c1, .bool R.dn, .int .i64 R.fu, .int .i64 R.fa, .int .i64 R.size, .int .u64 R.fr, .int .u64 R.nx, .bool true] 30, row k67 67 (.slice A1 (R.l).length c1) R.l, row k62 62 (.slice A2 (rs).length c2) rs, box gz [.slice none 0 0, .bool false, .int .i64 0, .int .i64 0, .int .i64 0, .int .u64 0, .int .u64 0, .bool false, .slice none 0 0, .int .i64 0] 33, box gd [.slice A l.length c, .bool dn, .int .i64 fu, .int .i64 fa] 27]) rfl (t := 30) (p := 9) rfl rfl ?hr (H1 := (Sep.set0 (Sep.set0 (Sep.set0 (Sep.set0 (Sep.set0 (Sep.set0 (Sep.set0 (Sep.set0 H.out 0 (.slice A1 R.l.length c1) rfl) 1 (.bool R.dn) rfl) 2 (.int .i64 R.fu) rfl) 3 (.int .i64 R.fa) rfl) 4 (.int .i64 R.size) rfl) 5 (.int .u64 R.fr) rfl) 6 (.int .u64 R.nx) rfl) 7 (.bool true) rfl)) ?_;
   (case hr => first | (go_simp; done) | (go_simp; rfl));
   intro qbA n_;
   clear H c_b z_b c_z z_z c_d;
   have H := n_;
   clear n_;
   have c_b := H.out.cell (g := gb) aJ;
   have z_b := H.out.frozen (g := gb) aJ;
   have c_z := H.out.cell (g := gz) mem3;
   have z_z := H.out.frozen (g := gz) mem3;
   have c_d := H.out.cell (g := gd) bK)
 |((with_reducible refine aN (t := 33) (p := 6) rfl ?_);
   refine aZ (rs1 := [box gb [.slice A1 R.l.length c1, .bool R.dn, .int .i64 R.fu, .int .i64 R.fa, .int .i64 R.size, .int .u64 R.fr, .int .u64 R.nx, .bool true] 30, row k67 67 (.slice A1 (R.l).length c1) R.l, row k62 62 (.slice A2 (rs).length c2) rs, box gz [.slice A1 R.l.length c1, .bool R.dn, .int .i64 R.fu, .int .i64 R.fa, .int .i64 R.size, .int .u64 R.fr, .int .u64 R.nx, .bool true, .slice none 0 0, .int .i64 most] 33, box gd [.slice A l.length c, .bool dn, .int .i64 fu, .int .i64 fa] 27]) rfl (t := 33) (p := 6) rfl rfl ?hr (H1 := (Sep.dZ (Sep.dZ (Sep.dZ (Sep.dZ (Sep.dZ (Sep.dZ (Sep.dZ (Sep.dZ (Sep.dZ (Sep.dZ H.out 0 (.slice A1 R.l.length c1) rfl) 1 (.bool R.dn) rfl) 2 (.int .i64 R.fu) rfl) 3 (.int .i64 R.fa) rfl) 4 (.int .i64 R.size) rfl) 5 (.int .u64 R.fr) rfl) 6 (.int .u64 R.nx) rfl) 7 (.bool true) rfl) 8 (.slice none 0 0) rfl) 9 (.int .i64 most) rfl)) ?_;
   (case hr => first | (go_simp; done) | (go_simp; rfl));
   intro qbB n_;
   clear H c_b z_b c_z z_z c_d;
   have H := n_;
   clear n_;
   have c_b := H.out.cell (g := gb) aJ;
   have z_b := H.out.frozen (g := gb) aJ;
   have c_z := H.out.cell (g := gz) mem3;
   have z_z := H.out.frozen (g := gz) mem3;
   have c_d := H.out.cell (g := gd) bK)
 |fail)
      refine bodyPost_ret (dB (rs := [.cell 6 33, .tmp 7]) rfl (by simp) (.cell gz 33 _ _ _ rfl (H.out.jK (g := gz) mem3) Tryz.underlying33 rfl info33 (.tmp .nil))) rfl ?_
      subst hOV
      refine ⟨A1, c1, none, 0, ?_, ⟨Sep.iP (Sep.eG (Sep.dV (Sep.drop2 (Sep.gK (Sep.jO H.out)))))⟩⟩
      simp only [qc, lgc, hbr]
      rfl
 ·
  refine ((dK.calls A c l dn fu fa 6 _ (H.out.came HRp.out) HCp.out (by rw [dK.f, if_neg hok])).mono ?_)
  rintro e qai ⟨rfl, hb_⟩
  have n_ : aA (Sep w qai [box gz [.slice none 0 0, .bool false, .int .i64 0, .int .i64 0, .int .i64 0, .int .u64 0, .int .u64 0, .bool false, .slice none 0 0, .int .i64 0] 33, box gd [.slice A l.length c, .bool dn, .int .i64 fu, .int .i64 fa] 27]) := ⟨H.out.step hb_⟩
  clear H c_z z_z c_d
  have H := n_
  clear n_
  have c_z := H.out.cell (g := gz) aJ
  have z_z := H.out.frozen (g := gz) aJ
  have c_d := H.out.cell (g := gd) mem1
  clear hb_
  have hOV : O = (Qz, 6) := by rw [HO.out, kN, if_neg hok]
  go_wp2_with (first
 |((with_reducible refine aN (t := 33) (p := 6) rfl ?_);
   refine aZ (rs1 := [box gz [.slice none 0 0, .bool false, .int .i64 0, .int .i64 0, .int .i64 0, .int .u64 0, .int .u64 0, .bool false, .slice none 0 0, .int .i64 0] 33, box gd [.slice A l.length c, .bool dn, .int .i64 fu, .int .i64 fa] 27]) rfl (t := 33) (p := 6) rfl rfl ?hr (H1 := (Sep.set0 (Sep.set0 (Sep.set0 (Sep.set0 (Sep.set0 (Sep.set0 (Sep.set0 (Sep.set0 (Sep.set0 (Sep.set0 H.out 0 (.slice none 0 0) rfl) 1 (.bool false) rfl) 2 (.int .i64 0) rfl) 3 (.int .i64 0) rfl) 4 (.int .i64 0) rfl) 5 (.int .u64 0) rfl) 6 (.int .u64 0) rfl) 7 (.bool false) rfl) 8 (.slice none 0 0) rfl) 9 (.int .i64 0) rfl)) ?_;
   (case hr => first | (go_simp; done) | (go_simp; rfl));
   intro qcN n_;
   clear H c_z z_z c_d;
   have H := n_;
   clear n_;
   have c_z := H.out.cell (g := gz) aJ;
   have z_z := H.out.frozen (g := gz) aJ;
   have c_d := H.out.cell (g := gd) mem1)
 |fail)
  refine bodyPost_ret (dB (rs := [.cell 6 33, .tmp 7]) rfl (by simp) (.cell gz 33 _ _ _ rfl (H.out.jK (g := gz) aJ) Tryz.underlying33 rfl info33 (.tmp .nil))) rfl ?_
  subst hOV
  exact ⟨none, 0, none, 0, rfl, ⟨Sep.eG (Sep.eG (Sep.dV (Sep.drop1 H.out)))⟩⟩
theorem V4 (s : ByteArray) (k : Nat) : bt s (k : Int) = ((((byt s)[k]?).map UInt8.toNat).getD 0 : Nat) := by
 unfold bt
 simp only [Int.toNat_natCast]
 split
 ·rename_i h
  have h2 : k < (byt s).length := by rw [dD]; exact h
  rw [List.getElem?_eq_getElem h2]
  rfl
 ·rename_i h
  rw [List.getElem?_eq_none (by rw [dD]; omega)]
  rfl
theorem QI (data : ByteArray) : byt (P80 ++ data) = 80 :: byt data := by rw [wJ]; rfl
theorem qb9 (data : ByteArray) : bt (P80 ++ data) 0 = 80 := by
 have := V4 (P80 ++ data) 0
 rw [QI] at this
 exact this
theorem LD (data : ByteArray) : (P80 ++ data).size = data.size + 1 := by
 rw [← dD, QI, List.length_cons, dD]
theorem NU (data : ByteArray) : qC (P80 ++ data) = none := by
 rw [qC, if_neg]
 rintro ⟨_, h⟩
 rw [qb9] at h
 omega
theorem qaB (data : ByteArray) : qbZ (P80 ++ data) := by
 refine ⟨fun h => ?_, qb9 data⟩
 have := congrArg ByteArray.size h
 rw [LD] at this
 cases this
theorem qca (data : ByteArray) : (P80 ++ data).extract 1 (P80 ++ data).size = data := by
 apply qN
 rw [qX, QI, LD, List.take_of_length_le (by rw [List.length_cons, dD]; omega)]
 rfl
theorem D6 (a b : List S62) (n : Int) : kU (a ++ b) n = kU a n + kU b n := by
 unfold kU
 rw [List.filter_append, List.length_append]
theorem yK (m : Int) (data : ByteArray) : ∀ rs : List S62, dA (rs ++ [⟨m, P80 ++ data⟩]) = dA rs ++ [⟨m, data, false⟩]
 | [] => by
  show dA [⟨m, P80 ++ data⟩] = [⟨m, data, false⟩]
  rw [dA, if_pos ⟨NU data, qaB data, rfl⟩, qca]
  rfl
 | r :: rest => by
  have h1 : kU (rest ++ [⟨m, P80 ++ data⟩]) r.f0 = kU rest r.f0 := by
   rw [D6, wU, if_neg (by rw [NU]; simp)]
   rfl
  rw [List.cons_append, dA, dA, h1, yK m data rest]
  split <;> rfl
theorem yL {m q : Int} {s : ByteArray} (h : qC s = some q) : ∀ rs : List S62, dA (rs ++ [⟨m, s⟩]) = (dA rs).filter fun x => decide (x.f0 ≠ q)
 | [] => by
  show dA [⟨m, s⟩] = []
  rw [dA, if_neg (fun g => by have g1 := g.1; rw [h] at g1; cases g1)]
  rfl
 | r :: rest => by
  have hg : kU (rest ++ [⟨m, s⟩]) r.f0 = if r.f0 = q then kU rest r.f0 + 1 else kU rest r.f0 := by
   rw [D6, wU]
   show kU rest r.f0 + (if qC s = some r.f0 then 0 + 1 else 0) = _
   rw [h]
   by_cases hq : r.f0 = q
   ·rw [if_pos hq, if_pos (by rw [hq])]
   ·rw [if_neg hq, if_neg (fun g => hq (Option.some.inj g).symm)]
    rfl
  rw [List.cons_append, dA, dA, yL h rest, hg]
  by_cases hq : r.f0 = q
  ·rw [if_pos hq, if_neg (fun g => by have := g.2.2; omega)]
   split
   ·rw [List.filter_cons, if_neg (by simp [hq])]
   ·rfl
  ·rw [if_neg hq]
   by_cases hc : qC r.f1 = none ∧ qbZ r.f1 ∧ kU rest r.f0 = 0
   ·rw [if_pos hc, if_pos hc, List.filter_cons, if_pos (by simp [hq])]
   ·rw [if_neg hc, if_neg hc]
theorem uS (b : List S62) : ∀ a : List S62, ∃ X, dA (a ++ b) = X ++ dA b ∧ ∀ x ∈ X, ∃ r ∈ a, r.f0 = x.f0
 | [] => ⟨[], rfl, by simp⟩
 | r :: a => by
  obtain ⟨X, h1, h2⟩ := uS b a
  rw [List.cons_append, dA, h1]
  split
  ·refine ⟨_ :: X, rfl, fun x hx => ?_⟩
   rcases List.mem_cons.1 hx with rfl | hx
   ·exact ⟨r, List.mem_cons_self .., rfl⟩
   ·obtain ⟨s, hs, e⟩ := h2 x hx
    exact ⟨s, List.mem_cons_of_mem _ hs, e⟩
  ·refine ⟨X, rfl, fun x hx => ?_⟩
   obtain ⟨s, hs, e⟩ := h2 x hx
   exact ⟨s, List.mem_cons_of_mem _ hs, e⟩
theorem NV {nx : Int} : ∀ {l : List S41} {least V5 : Int}, V5 ≤ least → tX nx least l → tX nx V5 l
 | [], _, _, _, _ => trivial
 | x :: r, least, V5, h, g => ⟨g.1, by have := g.2.1; omega, g.2.2.1, g.2.2.2⟩
theorem QJ {nx nx' : Int} (h : nx ≤ nx') : ∀ {l : List S41} {least : Int}, tX nx least l → tX nx' least l
 | [], _, _ => trivial
 | x :: r, least, g => ⟨g.1, g.2.1, by have := g.2.2.1; omega, QJ h g.2.2.2⟩
theorem extract_size (s : ByteArray) : (s.extract 1 s.size).size = s.size - 1 := by
 simp only [ByteArray.size_extract]
 omega
theorem wW {nx : Int} : ∀ (ds : List fG.Bytes) (n : Nat), ((n + ds.length : Nat) : Int) ≤ nx → (∀ d ∈ ds, d.length ≤ 65536) → tX nx (n : Int) (dA (bM ds n))
 | [], n, _, _ => trivial
 | d :: ds, n, h, hs => by
  simp only [List.length_cons] at h
  have ih := wW ds (n + 1) (by rw [show n + 1 + ds.length = n + (ds.length + 1) by omega]; exact h) (fun x hx => hs x (List.mem_cons_of_mem _ hx))
  rw [bM, dA]
  split
  ·rename_i hc
   have hd := hs d (List.mem_cons_self ..)
   have hz : (⟨d.toArray⟩ : ByteArray).size = d.length := by rw [← dD, qE]
   refine ⟨?_, Int.le_refl _, by show (n : Int) < nx; omega, ?_⟩
   ·show ((⟨d.toArray⟩ : ByteArray).extract 1 (⟨d.toArray⟩ : ByteArray).size).size < 65536
    rw [extract_size, hz]
    have : d.length ≠ 0 := fun h0 => hc.2.1.1 (ByteArray.size_eq_zero_iff.1 (by rw [hz]; exact h0))
    omega
   ·exact ih
  ·exact NV (by omega) ih
theorem yM : ∀ (n : Nat) (a : List Pl) (ds : List fG.Bytes) (m : Nat), chain SU n a ds m → ∀ d ∈ ds, d.length ≤ 65536
 | n, [], ds, m, h, d, hd => by obtain ⟨rfl, _⟩ := h; cases hd
 | n, p :: r, ds, m, h, d, hd => by
  obtain ⟨h1, d1, d2, rfl, h3, h4⟩ := h
  rcases List.mem_append.1 hd with hd | hd
  ·exact (rH h3).2 d hd
  ·exact yM _ r d2 m h4 d hd
def strip (l : List S41) : List S41 := l.map fun x => ⟨x.f0, x.f1, false⟩
theorem y7 (l : List S41) : (strip l).length = l.length := List.length_map ..
theorem LG {nx : Int} : ∀ {l : List S41} {least : Int}, tX nx least (strip l) ↔ tX nx least l
 | [], _ => Iff.rfl
 | x :: r, least => by
  have ih := LG (nx := nx) (l := r) (least := x.f0 + 1)
  exact ⟨fun h => ⟨h.1, h.2.1, h.2.2.1, ih.1 h.2.2.2⟩, fun h => ⟨h.1, h.2.1, h.2.2.1, ih.2 h.2.2.2⟩⟩
theorem wX : ∀ rs : List S62, ∀ x ∈ dA rs, x.f2 = false
 | [], x, h => by cases h
 | r :: rest, x, h => by
  rw [dA] at h
  split at h
  ·rcases List.mem_cons.1 h with rfl | h
   ·rfl
   ·exact wX rest x h
  ·exact wX rest x h
structure QW (Q : Qu) (ds : List fG.Bytes) (n m : Nat) : Prop where
 wf : WF Q.L ds n m
 sy : Sy Q.L.l
 fu : Q.L.fu = -1
 fa : Q.L.fa = -1
 lo : 1 ≤ Q.most
 hi : Q.most ≤ 1024
 len : Q.es.length ≤ 1024
 es : strip Q.es = dA (bM ds n)
theorem QW.oks {Q : Qu} {ds : List fG.Bytes} {n m : Nat} (h : QW Q ds n m) : tX Q.L.nx Q.L.fr Q.es := by
 rw [← LG, h.es, h.wf.fr]
 refine wW ds n ?_ (yM n _ ds m h.wf.ch)
 rw [h.wf.nx, l9 SU n _ ds m h.wf.ch]
 exact Int.le_refl _
theorem QW.ok {Q : Qu} {ds : List fG.Bytes} {n m : Nat} (h : QW Q ds n m) : okQ Q := ⟨h.wf.okL, h.lo, h.hi, h.len, h.oks⟩
theorem QW.fr0 {Q : Qu} {ds : List fG.Bytes} {n m : Nat} (h : QW Q ds n m) : 0 ≤ Q.L.fr := by rw [h.wf.fr]; omega
theorem QW.nx0 {Q : Qu} {ds : List fG.Bytes} {n m : Nat} (h : QW Q ds n m) : 0 ≤ Q.L.nx ∧ Q.L.nx < 18446744073709551616 := by
 have h1 := h.wf.nx
 have h2 := h.wf.top
 unfold most at h2
 omega
theorem jZ {Q : Qu} (h : okQ Q) (hb : Q.L.br = false) (D : Qu × Int) : kM Q D = D := by rw [kM, if_pos h, hb, if_neg (by simp)]
theorem qcb {Q : Qu} (h : okQ Q) (hb : Q.L.br = true) (D : Qu × Int) : kM Q D = (Q, 6) := by rw [kM, if_pos h, hb, if_pos rfl]
theorem qaC {Q : Qu} (h : ¬ okQ Q) (D : Qu × Int) : kM Q D = (Qz, 6) := by rw [kM, if_neg h]
theorem LH {l : List S67} {es : List fG.Bytes} {n : Nat} {size most : Int} (h : Back l es n) (h0 : 1 ≤ size) (h1 : size ≤ 262144) (m0 : 1 ≤ most) (m1 : most ≤ 1024) (hl : (dA (bM es n)).length ≤ 1024) :
  ∃ L, kN l false (-1) (-1) size most = (⟨L, dA (bM es n), most⟩, 0) ∧ WF L es n (n + es.length) ∧ L.fu = -1 ∧ L.fa = -1 ∧ L.size = size := by
 obtain ⟨M, o1, o2, o3, o4, o5⟩ := h.opens h0 h1
 refine ⟨M, ?_, o2, o3, o4, o5⟩
 rw [kN, if_pos h.right, if_neg (by omega), o1]
 simp only
 rw [if_pos trivial, if_neg (by omega)]
end Go.Proofs.U
