import Derived.Test.YtanonhipicoigaaGreatDoorZRai
import Derived.Test.YtanonhipicoigaaGreatDoorZRak
import Derived.Test.YtanonhipicoigaaGreatDoorZRan
import Derived.Test.YtanonhipicoigaaGreatDoorZRag
set_option linter.unusedVariables false
set_option linter.unusedSimpArgs false
set_option maxRecDepth 100000
namespace Go.Proofs.U
open Go.RowKit Go.Proofs.aA.aK Go.Proofs.aA.aW Go.Proofs.aA.aX
attribute [local go_sem] iD iG jB jJ gU gV iP iQ
def fH.f (bJ : List (S67)) (cZ : Bool) (dA : Int) (dB : Int) (eP : Int) (eX : Int) (eF : Int) (fD : Bool) : Option (Int) := (dW.f bJ cZ dA dB).bind fun yK => (if yK = 0 then (if eP < 1 then (some 6) else (if eP > 262144 then (some 6) else (if eX > eF then (some 6) else (if eF > 4611686018427387904 then (some 6) else (some 0))))) else (some 6))
set_option maxHeartbeats 8000000 in
theorem fH.calls (dQ : Option Addr) (dR : Nat) (bJ : List (S67)) (cZ : Bool) (dA : Int) (dB : Int) (eP : Int) (eX : Int) (eF : Int) (fD : Bool) (r : Int) (w : World) (jY : Kd.C k67 w dQ bJ.length bJ) (lX : bJ.length ≤ dR) (h : fH.f bJ cZ dA dB eP eX eF fD = some r) :
    Calls Tryz.prog 33 #[.agg #[.slice dQ bJ.length dR, .bool cZ, .int .i64 dA, .int .i64 dB, .int .i64 eP, .int .u64 eX, .int .u64 eF, .bool fD]] w fun e w' => e = .returned (.int .i64 r) ∧ Below w.heap.size w w' := by
  have qhh := Tryz.underlying30
  have qhi := Tryz.underlying27
  have yP := aC.mk jY
  have yQ := aC.mk lX
  clear jY lX
  have HB := aC.mk (Below.refl w.heap.size w)
  have H : ((dW.f bJ cZ dA dB).bind fun yK => (if yK = 0 then (if eP < 1 then (some 6) else (if eP > 262144 then (some 6) else (if eX > eF then (some 6) else (if eF > 4611686018427387904 then (some 6) else (some 0))))) else (some 6))) = some r := h
  clear h
  replace H := Option.bind_eq_some_iff.mp H
  obtain ⟨yK, A20, H⟩ := H
  replace H : (if yK = 0 then (if eP < 1 then (some 6) else (if eP > 262144 then (some 6) else (if eX > eF then (some 6) else (if eF > 4611686018427387904 then (some 6) else (some 0))))) else (some 6)) = some r := H
  have A2 := aC.mk A20
  clear A20
  by_cases c3 : yK = 0
  · rw [if_pos c3] at H
    have F6 : (yK == 0) = true := beq_iff_eq.mpr c3
    have Q7 : (yK != 0) = false := bne_eq_false_iff_eq.mpr c3
    clear c3
    by_cases c4 : eP < 1
    · rw [if_pos c4] at H
      have ZO : decide (eP < 1) = true := decide_eq_true c4
      clear c4
      obtain rfl := Option.some.inj H
      go_enter Tryz.func33, Tryz.ntmps33
      go_wp2_with (first | ((with_reducible refine aU (N := 1) rfl ?_); refine dL ?hg (N := 1) ?hd (cs := #[.slice dQ bJ.length dR, .bool cZ, .int .i64 dA, .int .i64 dB, .int .i64 eP, .int .u64 eX, .int .u64 eF, .bool fD]) (t := 30) ?hr ?_; (case hd => rfl); (case hg => rfl); (case hr => first | (go_simp; done) | (go_simp; rfl)); intro bW hg w5 hbox hb; have n0_ := aC.mk (bF (by repeat (first | (with_reducible first | exact HB.out | apply aQ | apply aT | apply aZ) | exact HB.out)) hb); have n1_ := aC.mk (hbox); have n2_ := aC.mk ((by rw [hg]; exact (dU (by repeat (first | (with_reducible first | exact HB.out | apply aQ | apply aT | apply aZ) | exact HB.out))) : w.heap.size ≤ bW)); have n3_ := aC.mk ((by rw [hg]; exact (dU (by repeat (first | (with_reducible first | exact HB.out | apply aQ | apply aT | apply aZ) | exact HB.out))) : w.heap.size ≤ bW)); clear HB; have HB := n0_; have aY := n1_; have Q8 := n2_; have qP := n3_; clear n0_ n1_ n2_ n3_; clear hb hbox hg; have qhj : w5.cell? ⟨bW, 0, none⟩ = some (.slice dQ bJ.length dR) := (aH aY.out 0).trans rfl; have qhk : w5.cell? ⟨bW, 1, none⟩ = some (.bool cZ) := (aH aY.out 1).trans rfl; have qhl : w5.cell? ⟨bW, 2, none⟩ = some (.int .i64 dA) := (aH aY.out 2).trans rfl; have qhm : w5.cell? ⟨bW, 3, none⟩ = some (.int .i64 dB) := (aH aY.out 3).trans rfl; have qhn : w5.cell? ⟨bW, 4, none⟩ = some (.int .i64 eP) := (aH aY.out 4).trans rfl; have qho : w5.cell? ⟨bW, 5, none⟩ = some (.int .u64 eX) := (aH aY.out 5).trans rfl; have qhp : w5.cell? ⟨bW, 6, none⟩ = some (.int .u64 eF) := (aH aY.out 6).trans rfl; have qhq : w5.cell? ⟨bW, 7, none⟩ = some (.bool fD) := (aH aY.out 7).trans rfl; have qhr := aG aY.out 0; have qhs := aG aY.out 1; have qht := aG aY.out 2; have qhu := aG aY.out 3; have qhv := aG aY.out 4; have qhw := aG aY.out 5; have qhx := aG aY.out 6; have qhy := aG aY.out 7) | ((with_reducible refine jP (f := 50) rfl ?_); refine uZ (some 5) rfl rfl Tryz.func50 (by kernel_rfl) rfl #[.agg #[.slice dQ bJ.length dR, .bool cZ, .int .i64 dA, .int .i64 dB]] rfl (by (try simp only [List.map_toArray, List.map_cons, List.map_nil]); first | done | rfl | (simp only [List.length_drop, List.length_take]; rfl)) ?_; (with_reducible refine (dW.calls _ _ bJ cZ dA dB yK _ ?qQ ?qR A2.out).mono ?_); (case qQ => repeat (first | exact (Kd.fK yP.out HB.out) | (with_reducible refine Kd.rC ?_ _) | (with_reducible refine Kd.rD ?_ _) | (with_reducible refine Kd.uY ?_))); (case qR => exact yQ.out); rintro e w7 ⟨rfl, hb⟩; refine ⟨_, rfl, ?_⟩; have n0_ := aC.mk (bG (g := bW) (o := .cells #[.slice dQ bJ.length dR, .bool cZ, .int .i64 dA, .int .i64 dB, .int .i64 eP, .int .u64 eX, .int .u64 eF, .bool fD] 30 (0, 0)) (by (with_reducible repeat (first | refine bY ?_ _ | refine bQ ?_ | refine bC ?_ _)); exact aY.out) hb); have n1_ := aC.mk (bF (by repeat (first | (with_reducible first | exact HB.out | apply aQ | apply aT | apply aZ | refine bM ?_ qP.out) | exact HB.out)) hb); clear aY; clear HB; have aY := n0_; have HB := n1_; clear n0_ n1_; (try clear hb); (try clear hb2); (try clear hk); (try clear hi); have TU : w7.cell? ⟨bW, 0, none⟩ = some (.slice dQ bJ.length dR) := (aH aY.out 0).trans rfl; have TV : w7.cell? ⟨bW, 1, none⟩ = some (.bool cZ) := (aH aY.out 1).trans rfl; have TW : w7.cell? ⟨bW, 2, none⟩ = some (.int .i64 dA) := (aH aY.out 2).trans rfl; have TY : w7.cell? ⟨bW, 3, none⟩ = some (.int .i64 dB) := (aH aY.out 3).trans rfl; have UA : w7.cell? ⟨bW, 4, none⟩ = some (.int .i64 eP) := (aH aY.out 4).trans rfl; have UC : w7.cell? ⟨bW, 5, none⟩ = some (.int .u64 eX) := (aH aY.out 5).trans rfl; have UD : w7.cell? ⟨bW, 6, none⟩ = some (.int .u64 eF) := (aH aY.out 6).trans rfl; have UF : w7.cell? ⟨bW, 7, none⟩ = some (.bool fD) := (aH aY.out 7).trans rfl; have UG := aG aY.out 0; have UH := aG aY.out 1; have UJ := aG aY.out 2; have UK := aG aY.out 3; have UL := aG aY.out 4; have UM := aG aY.out 5; have UN := aG aY.out 6; have UO := aG aY.out 7))
      go_ret
      exact ⟨by first | rfl | (simp [gK, gQ] <;> rfl) | (simp [*, gK, gQ] <;> rfl), by repeat (first | (with_reducible first | exact HB.out | apply aQ | apply aT | apply aZ | refine bM ?_ qP.out) | exact HB.out)⟩
    · rw [if_neg c4] at H
      have ZO : decide (eP < 1) = false := decide_eq_false c4
      clear c4
      by_cases c9 : eP > 262144
      · rw [if_pos c9] at H
        have qeu : decide (262144 < eP) = true := decide_eq_true c9
        clear c9
        obtain rfl := Option.some.inj H
        go_enter Tryz.func33, Tryz.ntmps33
        go_wp2_with (first | ((with_reducible refine aU (N := 1) rfl ?_); refine dL ?hg (N := 1) ?hd (cs := #[.slice dQ bJ.length dR, .bool cZ, .int .i64 dA, .int .i64 dB, .int .i64 eP, .int .u64 eX, .int .u64 eF, .bool fD]) (t := 30) ?hr ?_; (case hd => rfl); (case hg => rfl); (case hr => first | (go_simp; done) | (go_simp; rfl)); intro bW hg w10 hbox hb; have n0_ := aC.mk (bF (by repeat (first | (with_reducible first | exact HB.out | apply aQ | apply aT | apply aZ) | exact HB.out)) hb); have n1_ := aC.mk (hbox); have n2_ := aC.mk ((by rw [hg]; exact (dU (by repeat (first | (with_reducible first | exact HB.out | apply aQ | apply aT | apply aZ) | exact HB.out))) : w.heap.size ≤ bW)); have n3_ := aC.mk ((by rw [hg]; exact (dU (by repeat (first | (with_reducible first | exact HB.out | apply aQ | apply aT | apply aZ) | exact HB.out))) : w.heap.size ≤ bW)); clear HB; have HB := n0_; have aY := n1_; have Q8 := n2_; have qP := n3_; clear n0_ n1_ n2_ n3_; clear hb hbox hg; have NM : w10.cell? ⟨bW, 0, none⟩ = some (.slice dQ bJ.length dR) := (aH aY.out 0).trans rfl; have NP : w10.cell? ⟨bW, 1, none⟩ = some (.bool cZ) := (aH aY.out 1).trans rfl; have NQ : w10.cell? ⟨bW, 2, none⟩ = some (.int .i64 dA) := (aH aY.out 2).trans rfl; have NR : w10.cell? ⟨bW, 3, none⟩ = some (.int .i64 dB) := (aH aY.out 3).trans rfl; have NS : w10.cell? ⟨bW, 4, none⟩ = some (.int .i64 eP) := (aH aY.out 4).trans rfl; have NT : w10.cell? ⟨bW, 5, none⟩ = some (.int .u64 eX) := (aH aY.out 5).trans rfl; have NU : w10.cell? ⟨bW, 6, none⟩ = some (.int .u64 eF) := (aH aY.out 6).trans rfl; have NV : w10.cell? ⟨bW, 7, none⟩ = some (.bool fD) := (aH aY.out 7).trans rfl; have NW := aG aY.out 0; have NY := aG aY.out 1; have NZ := aG aY.out 2; have N7 := aG aY.out 3; have N8 := aG aY.out 4; have N9 := aG aY.out 5; have OA := aG aY.out 6; have OB := aG aY.out 7) | ((with_reducible refine jP (f := 50) rfl ?_); refine uZ (some 5) rfl rfl Tryz.func50 (by kernel_rfl) rfl #[.agg #[.slice dQ bJ.length dR, .bool cZ, .int .i64 dA, .int .i64 dB]] rfl (by (try simp only [List.map_toArray, List.map_cons, List.map_nil]); first | done | rfl | (simp only [List.length_drop, List.length_take]; rfl)) ?_; (with_reducible refine (dW.calls _ _ bJ cZ dA dB yK _ ?qQ ?qR A2.out).mono ?_); (case qQ => repeat (first | exact (Kd.fK yP.out HB.out) | (with_reducible refine Kd.rC ?_ _) | (with_reducible refine Kd.rD ?_ _) | (with_reducible refine Kd.uY ?_))); (case qR => exact yQ.out); rintro e w12 ⟨rfl, hb⟩; refine ⟨_, rfl, ?_⟩; have n0_ := aC.mk (bG (g := bW) (o := .cells #[.slice dQ bJ.length dR, .bool cZ, .int .i64 dA, .int .i64 dB, .int .i64 eP, .int .u64 eX, .int .u64 eF, .bool fD] 30 (0, 0)) (by (with_reducible repeat (first | refine bY ?_ _ | refine bQ ?_ | refine bC ?_ _)); exact aY.out) hb); have n1_ := aC.mk (bF (by repeat (first | (with_reducible first | exact HB.out | apply aQ | apply aT | apply aZ | refine bM ?_ qP.out) | exact HB.out)) hb); clear aY; clear HB; have aY := n0_; have HB := n1_; clear n0_ n1_; (try clear hb); (try clear hb2); (try clear hk); (try clear hi); have OC : w12.cell? ⟨bW, 0, none⟩ = some (.slice dQ bJ.length dR) := (aH aY.out 0).trans rfl; have OD : w12.cell? ⟨bW, 1, none⟩ = some (.bool cZ) := (aH aY.out 1).trans rfl; have OE : w12.cell? ⟨bW, 2, none⟩ = some (.int .i64 dA) := (aH aY.out 2).trans rfl; have OG : w12.cell? ⟨bW, 3, none⟩ = some (.int .i64 dB) := (aH aY.out 3).trans rfl; have OH : w12.cell? ⟨bW, 4, none⟩ = some (.int .i64 eP) := (aH aY.out 4).trans rfl; have OI : w12.cell? ⟨bW, 5, none⟩ = some (.int .u64 eX) := (aH aY.out 5).trans rfl; have OJ : w12.cell? ⟨bW, 6, none⟩ = some (.int .u64 eF) := (aH aY.out 6).trans rfl; have OL : w12.cell? ⟨bW, 7, none⟩ = some (.bool fD) := (aH aY.out 7).trans rfl; have OM := aG aY.out 0; have OO := aG aY.out 1; have OQ := aG aY.out 2; have OT := aG aY.out 3; have OU := aG aY.out 4; have OV := aG aY.out 5; have OW := aG aY.out 6; have OX := aG aY.out 7))
        go_ret
        exact ⟨by first | rfl | (simp [gK, gQ] <;> rfl) | (simp [*, gK, gQ] <;> rfl), by repeat (first | (with_reducible first | exact HB.out | apply aQ | apply aT | apply aZ | refine bM ?_ qP.out) | exact HB.out)⟩
      · rw [if_neg c9] at H
        have qeu : decide (262144 < eP) = false := decide_eq_false c9
        clear c9
        by_cases c14 : eX > eF
        · rw [if_pos c14] at H
          have qev : decide (eF < eX) = true := decide_eq_true c14
          clear c14
          obtain rfl := Option.some.inj H
          go_enter Tryz.func33, Tryz.ntmps33
          go_wp2_with (first | ((with_reducible refine aU (N := 1) rfl ?_); refine dL ?hg (N := 1) ?hd (cs := #[.slice dQ bJ.length dR, .bool cZ, .int .i64 dA, .int .i64 dB, .int .i64 eP, .int .u64 eX, .int .u64 eF, .bool fD]) (t := 30) ?hr ?_; (case hd => rfl); (case hg => rfl); (case hr => first | (go_simp; done) | (go_simp; rfl)); intro bW hg w15 hbox hb; have n0_ := aC.mk (bF (by repeat (first | (with_reducible first | exact HB.out | apply aQ | apply aT | apply aZ) | exact HB.out)) hb); have n1_ := aC.mk (hbox); have n2_ := aC.mk ((by rw [hg]; exact (dU (by repeat (first | (with_reducible first | exact HB.out | apply aQ | apply aT | apply aZ) | exact HB.out))) : w.heap.size ≤ bW)); have n3_ := aC.mk ((by rw [hg]; exact (dU (by repeat (first | (with_reducible first | exact HB.out | apply aQ | apply aT | apply aZ) | exact HB.out))) : w.heap.size ≤ bW)); clear HB; have HB := n0_; have aY := n1_; have Q8 := n2_; have qP := n3_; clear n0_ n1_ n2_ n3_; clear hb hbox hg; have VZ : w15.cell? ⟨bW, 0, none⟩ = some (.slice dQ bJ.length dR) := (aH aY.out 0).trans rfl; have V3 : w15.cell? ⟨bW, 1, none⟩ = some (.bool cZ) := (aH aY.out 1).trans rfl; have V4 : w15.cell? ⟨bW, 2, none⟩ = some (.int .i64 dA) := (aH aY.out 2).trans rfl; have V5 : w15.cell? ⟨bW, 3, none⟩ = some (.int .i64 dB) := (aH aY.out 3).trans rfl; have V6 : w15.cell? ⟨bW, 4, none⟩ = some (.int .i64 eP) := (aH aY.out 4).trans rfl; have V7 : w15.cell? ⟨bW, 5, none⟩ = some (.int .u64 eX) := (aH aY.out 5).trans rfl; have V8 : w15.cell? ⟨bW, 6, none⟩ = some (.int .u64 eF) := (aH aY.out 6).trans rfl; have V9 : w15.cell? ⟨bW, 7, none⟩ = some (.bool fD) := (aH aY.out 7).trans rfl; have WA := aG aY.out 0; have WB := aG aY.out 1; have WC := aG aY.out 2; have WE := aG aY.out 3; have WG := aG aY.out 4; have WH := aG aY.out 5; have WI := aG aY.out 6; have WJ := aG aY.out 7) | ((with_reducible refine jP (f := 50) rfl ?_); refine uZ (some 5) rfl rfl Tryz.func50 (by kernel_rfl) rfl #[.agg #[.slice dQ bJ.length dR, .bool cZ, .int .i64 dA, .int .i64 dB]] rfl (by (try simp only [List.map_toArray, List.map_cons, List.map_nil]); first | done | rfl | (simp only [List.length_drop, List.length_take]; rfl)) ?_; (with_reducible refine (dW.calls _ _ bJ cZ dA dB yK _ ?qQ ?qR A2.out).mono ?_); (case qQ => repeat (first | exact (Kd.fK yP.out HB.out) | (with_reducible refine Kd.rC ?_ _) | (with_reducible refine Kd.rD ?_ _) | (with_reducible refine Kd.uY ?_))); (case qR => exact yQ.out); rintro e w17 ⟨rfl, hb⟩; refine ⟨_, rfl, ?_⟩; have n0_ := aC.mk (bG (g := bW) (o := .cells #[.slice dQ bJ.length dR, .bool cZ, .int .i64 dA, .int .i64 dB, .int .i64 eP, .int .u64 eX, .int .u64 eF, .bool fD] 30 (0, 0)) (by (with_reducible repeat (first | refine bY ?_ _ | refine bQ ?_ | refine bC ?_ _)); exact aY.out) hb); have n1_ := aC.mk (bF (by repeat (first | (with_reducible first | exact HB.out | apply aQ | apply aT | apply aZ | refine bM ?_ qP.out) | exact HB.out)) hb); clear aY; clear HB; have aY := n0_; have HB := n1_; clear n0_ n1_; (try clear hb); (try clear hb2); (try clear hk); (try clear hi); have qe0 : w17.cell? ⟨bW, 0, none⟩ = some (.slice dQ bJ.length dR) := (aH aY.out 0).trans rfl; have qe1 : w17.cell? ⟨bW, 1, none⟩ = some (.bool cZ) := (aH aY.out 1).trans rfl; have qe2 : w17.cell? ⟨bW, 2, none⟩ = some (.int .i64 dA) := (aH aY.out 2).trans rfl; have qe3 : w17.cell? ⟨bW, 3, none⟩ = some (.int .i64 dB) := (aH aY.out 3).trans rfl; have qe4 : w17.cell? ⟨bW, 4, none⟩ = some (.int .i64 eP) := (aH aY.out 4).trans rfl; have qe5 : w17.cell? ⟨bW, 5, none⟩ = some (.int .u64 eX) := (aH aY.out 5).trans rfl; have qe6 : w17.cell? ⟨bW, 6, none⟩ = some (.int .u64 eF) := (aH aY.out 6).trans rfl; have qe7 : w17.cell? ⟨bW, 7, none⟩ = some (.bool fD) := (aH aY.out 7).trans rfl; have qe8 := aG aY.out 0; have qe9 := aG aY.out 1; have qfa := aG aY.out 2; have qfb := aG aY.out 3; have qfc := aG aY.out 4; have qfd := aG aY.out 5; have qfe := aG aY.out 6; have qff := aG aY.out 7))
          go_ret
          exact ⟨by first | rfl | (simp [gK, gQ] <;> rfl) | (simp [*, gK, gQ] <;> rfl), by repeat (first | (with_reducible first | exact HB.out | apply aQ | apply aT | apply aZ | refine bM ?_ qP.out) | exact HB.out)⟩
        · rw [if_neg c14] at H
          have qev : decide (eF < eX) = false := decide_eq_false c14
          clear c14
          by_cases c19 : eF > 4611686018427387904
          · rw [if_pos c19] at H
            have qc0 : decide (4611686018427387904 < eF) = true := decide_eq_true c19
            clear c19
            obtain rfl := Option.some.inj H
            go_enter Tryz.func33, Tryz.ntmps33
            go_wp2_with (first | ((with_reducible refine aU (N := 1) rfl ?_); refine dL ?hg (N := 1) ?hd (cs := #[.slice dQ bJ.length dR, .bool cZ, .int .i64 dA, .int .i64 dB, .int .i64 eP, .int .u64 eX, .int .u64 eF, .bool fD]) (t := 30) ?hr ?_; (case hd => rfl); (case hg => rfl); (case hr => first | (go_simp; done) | (go_simp; rfl)); intro bW hg w20 hbox hb; have n0_ := aC.mk (bF (by repeat (first | (with_reducible first | exact HB.out | apply aQ | apply aT | apply aZ) | exact HB.out)) hb); have n1_ := aC.mk (hbox); have n2_ := aC.mk ((by rw [hg]; exact (dU (by repeat (first | (with_reducible first | exact HB.out | apply aQ | apply aT | apply aZ) | exact HB.out))) : w.heap.size ≤ bW)); have n3_ := aC.mk ((by rw [hg]; exact (dU (by repeat (first | (with_reducible first | exact HB.out | apply aQ | apply aT | apply aZ) | exact HB.out))) : w.heap.size ≤ bW)); clear HB; have HB := n0_; have aY := n1_; have Q8 := n2_; have qP := n3_; clear n0_ n1_ n2_ n3_; clear hb hbox hg; have qfg : w20.cell? ⟨bW, 0, none⟩ = some (.slice dQ bJ.length dR) := (aH aY.out 0).trans rfl; have qfh : w20.cell? ⟨bW, 1, none⟩ = some (.bool cZ) := (aH aY.out 1).trans rfl; have qfi : w20.cell? ⟨bW, 2, none⟩ = some (.int .i64 dA) := (aH aY.out 2).trans rfl; have qfj : w20.cell? ⟨bW, 3, none⟩ = some (.int .i64 dB) := (aH aY.out 3).trans rfl; have qfk : w20.cell? ⟨bW, 4, none⟩ = some (.int .i64 eP) := (aH aY.out 4).trans rfl; have qfl : w20.cell? ⟨bW, 5, none⟩ = some (.int .u64 eX) := (aH aY.out 5).trans rfl; have qfm : w20.cell? ⟨bW, 6, none⟩ = some (.int .u64 eF) := (aH aY.out 6).trans rfl; have qfn : w20.cell? ⟨bW, 7, none⟩ = some (.bool fD) := (aH aY.out 7).trans rfl; have qfo := aG aY.out 0; have qfp := aG aY.out 1; have qfq := aG aY.out 2; have qfr := aG aY.out 3; have qfs := aG aY.out 4; have qft := aG aY.out 5; have qfu := aG aY.out 6; have qfv := aG aY.out 7) | ((with_reducible refine jP (f := 50) rfl ?_); refine uZ (some 5) rfl rfl Tryz.func50 (by kernel_rfl) rfl #[.agg #[.slice dQ bJ.length dR, .bool cZ, .int .i64 dA, .int .i64 dB]] rfl (by (try simp only [List.map_toArray, List.map_cons, List.map_nil]); first | done | rfl | (simp only [List.length_drop, List.length_take]; rfl)) ?_; (with_reducible refine (dW.calls _ _ bJ cZ dA dB yK _ ?qQ ?qR A2.out).mono ?_); (case qQ => repeat (first | exact (Kd.fK yP.out HB.out) | (with_reducible refine Kd.rC ?_ _) | (with_reducible refine Kd.rD ?_ _) | (with_reducible refine Kd.uY ?_))); (case qR => exact yQ.out); rintro e w22 ⟨rfl, hb⟩; refine ⟨_, rfl, ?_⟩; have n0_ := aC.mk (bG (g := bW) (o := .cells #[.slice dQ bJ.length dR, .bool cZ, .int .i64 dA, .int .i64 dB, .int .i64 eP, .int .u64 eX, .int .u64 eF, .bool fD] 30 (0, 0)) (by (with_reducible repeat (first | refine bY ?_ _ | refine bQ ?_ | refine bC ?_ _)); exact aY.out) hb); have n1_ := aC.mk (bF (by repeat (first | (with_reducible first | exact HB.out | apply aQ | apply aT | apply aZ | refine bM ?_ qP.out) | exact HB.out)) hb); clear aY; clear HB; have aY := n0_; have HB := n1_; clear n0_ n1_; (try clear hb); (try clear hb2); (try clear hk); (try clear hi); have qfw : w22.cell? ⟨bW, 0, none⟩ = some (.slice dQ bJ.length dR) := (aH aY.out 0).trans rfl; have qfx : w22.cell? ⟨bW, 1, none⟩ = some (.bool cZ) := (aH aY.out 1).trans rfl; have qfy : w22.cell? ⟨bW, 2, none⟩ = some (.int .i64 dA) := (aH aY.out 2).trans rfl; have qfz : w22.cell? ⟨bW, 3, none⟩ = some (.int .i64 dB) := (aH aY.out 3).trans rfl; have qfA : w22.cell? ⟨bW, 4, none⟩ = some (.int .i64 eP) := (aH aY.out 4).trans rfl; have qfB : w22.cell? ⟨bW, 5, none⟩ = some (.int .u64 eX) := (aH aY.out 5).trans rfl; have qfC : w22.cell? ⟨bW, 6, none⟩ = some (.int .u64 eF) := (aH aY.out 6).trans rfl; have qfD : w22.cell? ⟨bW, 7, none⟩ = some (.bool fD) := (aH aY.out 7).trans rfl; have qfE := aG aY.out 0; have qfF := aG aY.out 1; have qfG := aG aY.out 2; have qfH := aG aY.out 3; have qfI := aG aY.out 4; have qfJ := aG aY.out 5; have qfK := aG aY.out 6; have qfL := aG aY.out 7))
            go_ret
            exact ⟨by first | rfl | (simp [gK, gQ] <;> rfl) | (simp [*, gK, gQ] <;> rfl), by repeat (first | (with_reducible first | exact HB.out | apply aQ | apply aT | apply aZ | refine bM ?_ qP.out) | exact HB.out)⟩
          · rw [if_neg c19] at H
            have qc0 : decide (4611686018427387904 < eF) = false := decide_eq_false c19
            clear c19
            obtain rfl := Option.some.inj H
            go_enter Tryz.func33, Tryz.ntmps33
            go_wp2_with (first | ((with_reducible refine aU (N := 1) rfl ?_); refine dL ?hg (N := 1) ?hd (cs := #[.slice dQ bJ.length dR, .bool cZ, .int .i64 dA, .int .i64 dB, .int .i64 eP, .int .u64 eX, .int .u64 eF, .bool fD]) (t := 30) ?hr ?_; (case hd => rfl); (case hg => rfl); (case hr => first | (go_simp; done) | (go_simp; rfl)); intro bW hg w24 hbox hb; have n0_ := aC.mk (bF (by repeat (first | (with_reducible first | exact HB.out | apply aQ | apply aT | apply aZ) | exact HB.out)) hb); have n1_ := aC.mk (hbox); have n2_ := aC.mk ((by rw [hg]; exact (dU (by repeat (first | (with_reducible first | exact HB.out | apply aQ | apply aT | apply aZ) | exact HB.out))) : w.heap.size ≤ bW)); have n3_ := aC.mk ((by rw [hg]; exact (dU (by repeat (first | (with_reducible first | exact HB.out | apply aQ | apply aT | apply aZ) | exact HB.out))) : w.heap.size ≤ bW)); clear HB; have HB := n0_; have aY := n1_; have Q8 := n2_; have qP := n3_; clear n0_ n1_ n2_ n3_; clear hb hbox hg; have qcj : w24.cell? ⟨bW, 0, none⟩ = some (.slice dQ bJ.length dR) := (aH aY.out 0).trans rfl; have qck : w24.cell? ⟨bW, 1, none⟩ = some (.bool cZ) := (aH aY.out 1).trans rfl; have qcl : w24.cell? ⟨bW, 2, none⟩ = some (.int .i64 dA) := (aH aY.out 2).trans rfl; have qfM : w24.cell? ⟨bW, 3, none⟩ = some (.int .i64 dB) := (aH aY.out 3).trans rfl; have qfN : w24.cell? ⟨bW, 4, none⟩ = some (.int .i64 eP) := (aH aY.out 4).trans rfl; have qfO : w24.cell? ⟨bW, 5, none⟩ = some (.int .u64 eX) := (aH aY.out 5).trans rfl; have qfP : w24.cell? ⟨bW, 6, none⟩ = some (.int .u64 eF) := (aH aY.out 6).trans rfl; have qfQ : w24.cell? ⟨bW, 7, none⟩ = some (.bool fD) := (aH aY.out 7).trans rfl; have qcm := aG aY.out 0; have qcn := aG aY.out 1; have qco := aG aY.out 2; have qfR := aG aY.out 3; have qfS := aG aY.out 4; have qfT := aG aY.out 5; have qfU := aG aY.out 6; have qfV := aG aY.out 7) | ((with_reducible refine jP (f := 50) rfl ?_); refine uZ (some 5) rfl rfl Tryz.func50 (by kernel_rfl) rfl #[.agg #[.slice dQ bJ.length dR, .bool cZ, .int .i64 dA, .int .i64 dB]] rfl (by (try simp only [List.map_toArray, List.map_cons, List.map_nil]); first | done | rfl | (simp only [List.length_drop, List.length_take]; rfl)) ?_; (with_reducible refine (dW.calls _ _ bJ cZ dA dB yK _ ?qQ ?qR A2.out).mono ?_); (case qQ => repeat (first | exact (Kd.fK yP.out HB.out) | (with_reducible refine Kd.rC ?_ _) | (with_reducible refine Kd.rD ?_ _) | (with_reducible refine Kd.uY ?_))); (case qR => exact yQ.out); rintro e w26 ⟨rfl, hb⟩; refine ⟨_, rfl, ?_⟩; have n0_ := aC.mk (bG (g := bW) (o := .cells #[.slice dQ bJ.length dR, .bool cZ, .int .i64 dA, .int .i64 dB, .int .i64 eP, .int .u64 eX, .int .u64 eF, .bool fD] 30 (0, 0)) (by (with_reducible repeat (first | refine bY ?_ _ | refine bQ ?_ | refine bC ?_ _)); exact aY.out) hb); have n1_ := aC.mk (bF (by repeat (first | (with_reducible first | exact HB.out | apply aQ | apply aT | apply aZ | refine bM ?_ qP.out) | exact HB.out)) hb); clear aY; clear HB; have aY := n0_; have HB := n1_; clear n0_ n1_; (try clear hb); (try clear hb2); (try clear hk); (try clear hi); have qfW : w26.cell? ⟨bW, 0, none⟩ = some (.slice dQ bJ.length dR) := (aH aY.out 0).trans rfl; have qfX : w26.cell? ⟨bW, 1, none⟩ = some (.bool cZ) := (aH aY.out 1).trans rfl; have qfY : w26.cell? ⟨bW, 2, none⟩ = some (.int .i64 dA) := (aH aY.out 2).trans rfl; have qfZ : w26.cell? ⟨bW, 3, none⟩ = some (.int .i64 dB) := (aH aY.out 3).trans rfl; have qf0 : w26.cell? ⟨bW, 4, none⟩ = some (.int .i64 eP) := (aH aY.out 4).trans rfl; have qf1 : w26.cell? ⟨bW, 5, none⟩ = some (.int .u64 eX) := (aH aY.out 5).trans rfl; have qf2 : w26.cell? ⟨bW, 6, none⟩ = some (.int .u64 eF) := (aH aY.out 6).trans rfl; have qf3 : w26.cell? ⟨bW, 7, none⟩ = some (.bool fD) := (aH aY.out 7).trans rfl; have qf4 := aG aY.out 0; have qf5 := aG aY.out 1; have qf6 := aG aY.out 2; have qf7 := aG aY.out 3; have qf8 := aG aY.out 4; have qf9 := aG aY.out 5; have qga := aG aY.out 6; have qgb := aG aY.out 7))
            go_ret
            exact ⟨by first | rfl | (simp [gK, gQ] <;> rfl) | (simp [*, gK, gQ] <;> rfl), by repeat (first | (with_reducible first | exact HB.out | apply aQ | apply aT | apply aZ | refine bM ?_ qP.out) | exact HB.out)⟩
  · rw [if_neg c3] at H
    have F6 : (yK == 0) = false := beq_eq_false_iff_ne.mpr c3
    have Q7 : (yK != 0) = true := bne_iff_ne.mpr c3
    obtain rfl := Option.some.inj H
    go_enter Tryz.func33, Tryz.ntmps33
    go_wp2_with (first | ((with_reducible refine aU (N := 1) rfl ?_); refine dL ?hg (N := 1) ?hd (cs := #[.slice dQ bJ.length dR, .bool cZ, .int .i64 dA, .int .i64 dB, .int .i64 eP, .int .u64 eX, .int .u64 eF, .bool fD]) (t := 30) ?hr ?_; (case hd => rfl); (case hg => rfl); (case hr => first | (go_simp; done) | (go_simp; rfl)); intro bW hg w28 hbox hb; have n0_ := aC.mk (bF (by repeat (first | (with_reducible first | exact HB.out | apply aQ | apply aT | apply aZ) | exact HB.out)) hb); have n1_ := aC.mk (hbox); have n2_ := aC.mk ((by rw [hg]; exact (dU (by repeat (first | (with_reducible first | exact HB.out | apply aQ | apply aT | apply aZ) | exact HB.out))) : w.heap.size ≤ bW)); have n3_ := aC.mk ((by rw [hg]; exact (dU (by repeat (first | (with_reducible first | exact HB.out | apply aQ | apply aT | apply aZ) | exact HB.out))) : w.heap.size ≤ bW)); clear HB; have HB := n0_; have aY := n1_; have Q8 := n2_; have qP := n3_; clear n0_ n1_ n2_ n3_; clear hb hbox hg; have qcp : w28.cell? ⟨bW, 0, none⟩ = some (.slice dQ bJ.length dR) := (aH aY.out 0).trans rfl; have qcq : w28.cell? ⟨bW, 1, none⟩ = some (.bool cZ) := (aH aY.out 1).trans rfl; have qcr : w28.cell? ⟨bW, 2, none⟩ = some (.int .i64 dA) := (aH aY.out 2).trans rfl; have qgc : w28.cell? ⟨bW, 3, none⟩ = some (.int .i64 dB) := (aH aY.out 3).trans rfl; have qgd : w28.cell? ⟨bW, 4, none⟩ = some (.int .i64 eP) := (aH aY.out 4).trans rfl; have qge : w28.cell? ⟨bW, 5, none⟩ = some (.int .u64 eX) := (aH aY.out 5).trans rfl; have qgf : w28.cell? ⟨bW, 6, none⟩ = some (.int .u64 eF) := (aH aY.out 6).trans rfl; have qgg : w28.cell? ⟨bW, 7, none⟩ = some (.bool fD) := (aH aY.out 7).trans rfl; have qcs := aG aY.out 0; have qct := aG aY.out 1; have qcu := aG aY.out 2; have qgh := aG aY.out 3; have qgi := aG aY.out 4; have qgj := aG aY.out 5; have qgk := aG aY.out 6; have qgl := aG aY.out 7) | ((with_reducible refine jP (f := 50) rfl ?_); refine uZ (some 5) rfl rfl Tryz.func50 (by kernel_rfl) rfl #[.agg #[.slice dQ bJ.length dR, .bool cZ, .int .i64 dA, .int .i64 dB]] rfl (by (try simp only [List.map_toArray, List.map_cons, List.map_nil]); first | done | rfl | (simp only [List.length_drop, List.length_take]; rfl)) ?_; (with_reducible refine (dW.calls _ _ bJ cZ dA dB yK _ ?qQ ?qR A2.out).mono ?_); (case qQ => repeat (first | exact (Kd.fK yP.out HB.out) | (with_reducible refine Kd.rC ?_ _) | (with_reducible refine Kd.rD ?_ _) | (with_reducible refine Kd.uY ?_))); (case qR => exact yQ.out); rintro e w30 ⟨rfl, hb⟩; refine ⟨_, rfl, ?_⟩; have n0_ := aC.mk (bG (g := bW) (o := .cells #[.slice dQ bJ.length dR, .bool cZ, .int .i64 dA, .int .i64 dB, .int .i64 eP, .int .u64 eX, .int .u64 eF, .bool fD] 30 (0, 0)) (by (with_reducible repeat (first | refine bY ?_ _ | refine bQ ?_ | refine bC ?_ _)); exact aY.out) hb); have n1_ := aC.mk (bF (by repeat (first | (with_reducible first | exact HB.out | apply aQ | apply aT | apply aZ | refine bM ?_ qP.out) | exact HB.out)) hb); clear aY; clear HB; have aY := n0_; have HB := n1_; clear n0_ n1_; (try clear hb); (try clear hb2); (try clear hk); (try clear hi)))
    go_ret
    exact ⟨by first | rfl | (simp [gK, gQ] <;> rfl) | (simp [*, gK, gQ] <;> rfl), by repeat (first | (with_reducible first | exact HB.out | apply aQ | apply aT | apply aZ | refine bM ?_ qP.out) | exact HB.out)⟩
end Go.Proofs.U
namespace Go.Proofs.U
open Go.RowKit Go.Proofs.aA.aK Go.Proofs.aA.aW Go.Proofs.aA.aX Go.Proofs.Sp Go.Proofs.gB
def okL (L : Lg) : Prop := bI L.l = true ∧ 1 ≤ L.size ∧ L.size ≤ 262144 ∧ L.fr ≤ L.nx ∧ L.nx ≤ 4611686018427387904
open Classical in
theorem xC (L : Lg) : fH.f L.l L.dn L.fu L.fa L.size L.fr L.nx L.br = some (if okL L then 0 else 6) := by
  unfold fH.f dW.f okL
  by_cases h : bI L.l = true
  · simp only [if_pos h, Option.bind_some, if_true]
    by_cases h1 : L.size < 1
    · rw [if_pos h1, if_neg (fun x => by omega)]
    · rw [if_neg h1]
      by_cases h2 : L.size > 262144
      · rw [if_pos h2, if_neg (fun x => by omega)]
      · rw [if_neg h2]
        by_cases h3 : L.fr > L.nx
        · rw [if_pos h3, if_neg (fun x => by omega)]
        · rw [if_neg h3]
          by_cases h4 : L.nx > 4611686018427387904
          · rw [if_pos h4, if_neg (fun x => by omega)]
          · rw [if_neg h4, if_pos ⟨h, by omega, by omega, by omega, by omega⟩]
  · simp only [if_neg h, Option.bind_some]
    rw [if_neg (by decide), if_neg (fun x => h x.1)]
open Classical in
noncomputable def dG (L : Lg) (d : ByteArray) : Lg × Int := if okL L then jG L d else (Lz, 6)
set_option maxHeartbeats 8000000 in
theorem Q9 (A : Option Addr) (c : Nat) (l : List S67) (dn : Bool) (fu fa size fr : Int) (n : Nat) (br : Bool) (d : ByteArray) (w : World) (hr : Kd.C k67 w A l.length l) (hc : l.length ≤ c) (hG : Gl w) (hn : n < 18446744073709551616) :
  Calls Tryz.prog 31 #[.agg #[.slice A l.length c, .bool dn, .int .i64 fu, .int .i64 fa, .int .i64 size, .int .u64 fr, .int .u64 (n : Int), .bool br], .string d] w fun e w' => ∃ A' c', e = .returned (.tuple #[.agg (lgc A' c' (dG ⟨l, dn, fu, fa, size, fr, (n : Int), br⟩ d).1).toArray, .int .i64 (dG ⟨l, dn, fu, fa, size, fr, (n : Int), br⟩ d).2])
   ∧ aC (Sep w w' [lV A' c' (dG ⟨l, dn, fu, fa, size, fr, (n : Int), br⟩ d).1.l]) := by
 have HRp := aC.mk hr
 have HCp := aC.mk hc
 have HG := aC.mk hG
 clear hr hc hG
 obtain ⟨O, hO⟩ : ∃ O, O = dG ⟨l, dn, fu, fa, size, fr, (n : Int), br⟩ d := ⟨_, rfl⟩
 rw [← hO]
 have HO := aC.mk hO
 clear hO
 have H := aC.mk (Sep.start w)
 go_enter Tryz.func31, Tryz.ntmps31
 go_wp2_with (first
 |((with_reducible refine aU (N := 2) rfl ?_);
   refine bK rfl H (cs := [.slice A l.length c, .bool dn, .int .i64 fu, .int .i64 fa, .int .i64 size, .int .u64 fr, .int .u64 (n : Int), .bool br]) (t := 30) ?hr ?_;
   (case hr => first | (go_simp; done) | (go_simp; rfl));
   intro gm wd1 n_;
   simp only [Act.put, zA, zZ, zS];
   clear H;
   have H := n_;
   clear n_;
   have c_m := H.out.cell (g := gm) aP)
 |((with_reducible refine aU (N := 3) rfl ?_);
   refine bK rfl H (cs := [.string d]) (t := 9) ?hr ?_;
   (case hr => first | (go_simp; done) | (go_simp; rfl));
   intro gt wd2 n_;
   simp only [Act.put, zA, zZ, zS];
   clear H c_m;
   have H := n_;
   clear n_;
   have c_t := H.out.cell (g := gt) aP;
   have c_m := H.out.cell (g := gm) mem1)
 |((with_reducible refine aU (N := 4) rfl ?_);
   refine bK rfl H (cs := [.slice none 0 0, .bool false, .int .i64 0, .int .i64 0, .int .i64 0, .int .u64 0, .int .u64 0, .bool false]) (t := 30) ?hr ?_;
   (case hr => first | (go_simp; done) | (go_simp; rfl));
   intro gz wd3 n_;
   simp only [Act.put, zA, zZ, zS];
   clear H c_t c_m;
   have H := n_;
   clear n_;
   have c_z := H.out.cell (g := gz) aP;
   have c_t := H.out.cell (g := gt) mem1;
   have c_m := H.out.cell (g := gm) mem2)
 |fail)
 by_cases hok : okL ⟨l, dn, fu, fa, size, fr, (n : Int), br⟩
 ·
  refine ((fH.calls A c l dn fu fa size fr (n : Int) br 0 _ (H.out.came HRp.out) HCp.out (by have h := xC ⟨l, dn, fu, fa, size, fr, (n : Int), br⟩; rw [if_pos hok] at h; exact h)).mono ?_)
  rintro e wd4 ⟨rfl, hb_⟩
  have n_ : aC (Sep w wd4 [box gz [.slice none 0 0, .bool false, .int .i64 0, .int .i64 0, .int .i64 0, .int .u64 0, .int .u64 0, .bool false] 30, box gt [.string d] 9, box gm [.slice A l.length c, .bool dn, .int .i64 fu, .int .i64 fa, .int .i64 size, .int .u64 fr, .int .u64 (n : Int), .bool br] 30]) := ⟨H.out.step hb_⟩
  clear H c_z c_t c_m
  have H := n_
  clear n_
  have c_z := H.out.cell (g := gz) aP
  have c_t := H.out.cell (g := gt) mem1
  have c_m := H.out.cell (g := gm) mem2
  clear hb_
  have hlen : l.length ≤ 64 := jZ hok.1
  have hs1 : 1 ≤ size := hok.2.1
  have hs2 : size ≤ 262144 := hok.2.2.1
  have hok1 : bI l = true := hok.1
  have QZ := aC.mk hok1
  have hOV : O = jG ⟨l, dn, fu, fa, size, fr, (n : Int), br⟩ d := by rw [HO.out, dG, if_pos hok]
  have HOV := aC.mk hOV
  clear hok hok1 HO hOV
  go_wp2_with fail
  refine ((NH A c l dn fu fa _ (H.out.came HRp.out) hlen).mono ?_)
  rintro e wd5 ⟨A3, c3, rfl, HJ⟩
  have n_ : aC (Sep w wd5 [row k67 67 (.slice A3 (l).length c3) l, box gz [.slice none 0 0, .bool false, .int .i64 0, .int .i64 0, .int .i64 0, .int .u64 0, .int .u64 0, .bool false] 30, box gt [.string d] 9, box gm [.slice A l.length c, .bool dn, .int .i64 fu, .int .i64 fa, .int .i64 size, .int .u64 fr, .int .u64 (n : Int), .bool br] 30]) := ⟨fM H.out HJ.out⟩
  clear H c_z c_t c_m
  have H := n_
  clear n_
  have c_z := H.out.cell (g := gz) mem1
  have c_t := H.out.cell (g := gt) mem2
  have c_m := H.out.cell (g := gm) mem3
  have z_m := H.out.frozen (g := gm) mem3
  clear HJ
  go_wp2_with (first
 |((with_reducible refine aV (t := 27) (p := 14) rfl ?_);
   refine bH (rs1 := [row k67 67 (.slice A3 (l).length c3) l, box gz [.slice none 0 0, .bool false, .int .i64 0, .int .i64 0, .int .i64 0, .int .u64 0, .int .u64 0, .bool false] 30, box gt [.string d] 9, box gm [.slice A3 l.length c3, .bool dn, .int .i64 fu, .int .i64 fa, .int .i64 size, .int .u64 fr, .int .u64 (n : Int), .bool br] 30]) rfl (t := 27) (p := 14) rfl rfl ?hr (H1 := (Sep.dY (Sep.dY (Sep.dY (Sep.dY H.out 0 (.slice A3 l.length c3) rfl) 1 (.bool dn) rfl) 2 (.int .i64 fu) rfl) 3 (.int .i64 fa) rfl)) ?_;
   (case hr => first | (go_simp; done) | (go_simp; rfl));
   intro wd6 n_;
   clear H c_z c_t c_m z_m;
   have H := n_;
   clear n_;
   have c_z := H.out.cell (g := gz) mem1;
   have c_t := H.out.cell (g := gt) mem2;
   have c_m := H.out.cell (g := gm) mem3;
   have z_m := H.out.frozen (g := gm) mem3)
 |((with_reducible refine aU (N := 17) rfl ?_);
   refine bK rfl H (cs := [.slice A3 l.length c3, .bool dn, .int .i64 fu, .int .i64 fa, .int .i64 size, .int .u64 fr, .int .u64 (n : Int), .bool br]) (t := 134) ?hr ?_;
   (case hr => first | (go_simp; done) | (go_simp; rfl));
   intro gl wd7 n_;
   simp only [Act.put, zA, zZ, zS];
   clear H c_z c_t c_m z_m;
   have H := n_;
   clear n_;
   have c_l := H.out.cell (g := gl) aP;
   have c_z := H.out.cell (g := gz) mem2;
   have c_t := H.out.cell (g := gt) mem3;
   have c_m := H.out.cell (g := gm) bT;
   have z_m := H.out.frozen (g := gm) bT)
 |((with_reducible refine aU (N := 6) rfl ?_);
   refine bK rfl H (cs := [.pointer none]) (t := 131) ?hr ?_;
   (case hr => first | (go_simp; done) | (go_simp; rfl));
   intro gv wd8 n_;
   simp only [Act.put, zA, zZ, zS];
   clear H c_l c_z c_t c_m z_m;
   have H := n_;
   clear n_;
   have c_v := H.out.cell (g := gv) aP;
   have z_v := H.out.frozen (g := gv) aP;
   have c_l := H.out.cell (g := gl) mem1;
   have c_z := H.out.cell (g := gz) mem3;
   have c_t := H.out.cell (g := gt) bT;
   have c_m := H.out.cell (g := gm) dM;
   have z_m := H.out.frozen (g := gm) dM)
 |((with_reducible refine aV (t := 131) (p := 6) rfl ?_);
   refine bH (rs1 := [box gv [.pointer (some ⟨gl, 0, none⟩)] 131, box gl [.slice A3 l.length c3, .bool dn, .int .i64 fu, .int .i64 fa, .int .i64 size, .int .u64 fr, .int .u64 (n : Int), .bool br] 134, row k67 67 (.slice A3 (l).length c3) l, box gz [.slice none 0 0, .bool false, .int .i64 0, .int .i64 0, .int .i64 0, .int .u64 0, .int .u64 0, .bool false] 30, box gt [.string d] 9, box gm [.slice A3 l.length c3, .bool dn, .int .i64 fu, .int .i64 fa, .int .i64 size, .int .u64 fr, .int .u64 (n : Int), .bool br] 30]) rfl (t := 131) (p := 6) rfl rfl ?hr (H1 := (Sep.set0 H.out 0 (.pointer (some ⟨gl, 0, none⟩)) rfl)) ?_;
   (case hr => first | (go_simp; done) | (go_simp; rfl));
   intro wd9 n_;
   clear H c_v z_v c_l c_z c_t c_m z_m;
   have H := n_;
   clear n_;
   have c_v := H.out.cell (g := gv) aP;
   have z_v := H.out.frozen (g := gv) aP;
   have c_l := H.out.cell (g := gl) mem1;
   have c_z := H.out.cell (g := gz) mem3;
   have c_t := H.out.cell (g := gt) bT;
   have c_m := H.out.cell (g := gm) dM;
   have z_m := H.out.frozen (g := gm) dM)
 |fail)
  have hdo := wY (ZN w gl gm gt gv l dn fu fa size fr n br d A3 c3 QZ.out (HG.out) hn hs1 hs2) [box gz [.slice none 0 0, .bool false, .int .i64 0, .int .i64 0, .int .i64 0, .int .u64 0, .int .u64 0, .bool false] 30]
  rw [← HOV.out] at hdo
  refine (AX hdo (fun args w => by simp [go_sem]) A3 c3 _ ⟨(Sep.rX (Sep.rX (Sep.rX (Sep.iR (Sep.iW (Sep.oZ H.out))))))⟩).mono ?_
  rintro e ED ⟨A4, c4, rfl, H2⟩
  clear hdo
  have n_ : aC (Sep w ED [box gl [.slice A4 O.1.l.length c4, .bool O.1.dn, .int .i64 O.1.fu, .int .i64 O.1.fa, .int .i64 O.1.size, .int .u64 O.1.fr, .int .u64 O.1.nx, .bool O.1.br] 134, row k67 67 (.slice A4 (O.1.l).length c4) O.1.l, box gm [.slice A3 l.length c3, .bool dn, .int .i64 fu, .int .i64 fa, .int .i64 size, .int .u64 fr, .int .u64 (n : Int), .bool br] 30, box gt [.string d] 9, box gv [.pointer (some ⟨gl, 0, none⟩)] 131, box gz [.slice none 0 0, .bool false, .int .i64 0, .int .i64 0, .int .i64 0, .int .u64 0, .int .u64 0, .bool false] 30]) := ⟨H2.out⟩
  clear H c_v z_v c_l c_z c_t c_m z_m
  have H := n_
  clear n_
  have c_l := H.out.cell (g := gl) aP
  have c_m := H.out.cell (g := gm) mem2
  have c_t := H.out.cell (g := gt) mem3
  have c_v := H.out.cell (g := gv) bT
  have c_z := H.out.cell (g := gz) dM
  have z_z := H.out.frozen (g := gz) dM
  clear H2
  simp only [lgc]
  go_wp2_with (first
 |((with_reducible refine aV (t := 30) (p := 4) rfl ?_);
   refine bH (rs1 := [box gl [.slice A4 O.1.l.length c4, .bool O.1.dn, .int .i64 O.1.fu, .int .i64 O.1.fa, .int .i64 O.1.size, .int .u64 O.1.fr, .int .u64 O.1.nx, .bool O.1.br] 134, row k67 67 (.slice A4 (O.1.l).length c4) O.1.l, box gm [.slice A3 l.length c3, .bool dn, .int .i64 fu, .int .i64 fa, .int .i64 size, .int .u64 fr, .int .u64 (n : Int), .bool br] 30, box gt [.string d] 9, box gv [.pointer (some ⟨gl, 0, none⟩)] 131, box gz [.slice A4 O.1.l.length c4, .bool O.1.dn, .int .i64 O.1.fu, .int .i64 O.1.fa, .int .i64 O.1.size, .int .u64 O.1.fr, .int .u64 O.1.nx, .bool O.1.br] 30]) rfl (t := 30) (p := 4) rfl rfl ?hr (H1 := (Sep.gY (Sep.gY (Sep.gY (Sep.gY (Sep.gY (Sep.gY (Sep.gY (Sep.gY H.out 0 (.slice A4 O.1.l.length c4) rfl) 1 (.bool O.1.dn) rfl) 2 (.int .i64 O.1.fu) rfl) 3 (.int .i64 O.1.fa) rfl) 4 (.int .i64 O.1.size) rfl) 5 (.int .u64 O.1.fr) rfl) 6 (.int .u64 O.1.nx) rfl) 7 (.bool O.1.br) rfl)) ?_;
   (case hr => first | (go_simp; done) | (go_simp; rfl));
   intro NJ n_;
   clear H c_l c_m c_t c_v c_z z_z;
   have H := n_;
   clear n_;
   have c_l := H.out.cell (g := gl) aP;
   have c_m := H.out.cell (g := gm) mem2;
   have c_t := H.out.cell (g := gt) mem3;
   have c_v := H.out.cell (g := gv) bT;
   have c_z := H.out.cell (g := gz) dM;
   have z_z := H.out.frozen (g := gz) dM)
 |fail)
  refine bodyPost_ret (dH (rs := [.cell 4 30, .tmp 5]) rfl (by simp) (.cell gz 30 _ _ _ rfl (H.out.jF (g := gz) dM) Tryz.underlying30 rfl info30 (.tmp .nil))) rfl ?_
  exact ⟨A4, c4, rfl, ⟨(Sep.eG (Sep.drop2 (Sep.iJ (Sep.lC (Sep.sQ H.out)))))⟩⟩
 ·
  refine ((fH.calls A c l dn fu fa size fr (n : Int) br 6 _ (H.out.came HRp.out) HCp.out (by have h := xC ⟨l, dn, fu, fa, size, fr, (n : Int), br⟩; rw [if_neg hok] at h; exact h)).mono ?_)
  rintro e JQ ⟨rfl, hb_⟩
  have n_ : aC (Sep w JQ [box gz [.slice none 0 0, .bool false, .int .i64 0, .int .i64 0, .int .i64 0, .int .u64 0, .int .u64 0, .bool false] 30, box gt [.string d] 9, box gm [.slice A l.length c, .bool dn, .int .i64 fu, .int .i64 fa, .int .i64 size, .int .u64 fr, .int .u64 (n : Int), .bool br] 30]) := ⟨H.out.step hb_⟩
  clear H c_z c_t c_m
  have H := n_
  clear n_
  have c_z := H.out.cell (g := gz) aP
  have c_t := H.out.cell (g := gt) mem1
  have c_m := H.out.cell (g := gm) mem2
  clear hb_
  have hOV : O = (Lz, 6) := by rw [HO.out, dG, if_neg hok]
  clear HO hok
  clear c_z c_t c_m
  have c_z := H.out.cell (g := gz) aP
  have z_z := H.out.frozen (g := gz) aP
  have c_t := H.out.cell (g := gt) mem1
  have c_m := H.out.cell (g := gm) mem2
  go_wp2_with (first
 |((with_reducible refine aV (t := 30) (p := 4) rfl ?_);
   refine bH (rs1 := [box gz [.slice none 0 0, .bool false, .int .i64 0, .int .i64 0, .int .i64 0, .int .u64 0, .int .u64 0, .bool false] 30, box gt [.string d] 9, box gm [.slice A l.length c, .bool dn, .int .i64 fu, .int .i64 fa, .int .i64 size, .int .u64 fr, .int .u64 (n : Int), .bool br] 30]) rfl (t := 30) (p := 4) rfl rfl ?hr (H1 := (Sep.set0 (Sep.set0 (Sep.set0 (Sep.set0 (Sep.set0 (Sep.set0 (Sep.set0 (Sep.set0 H.out 0 (.slice none 0 0) rfl) 1 (.bool false) rfl) 2 (.int .i64 0) rfl) 3 (.int .i64 0) rfl) 4 (.int .i64 0) rfl) 5 (.int .u64 0) rfl) 6 (.int .u64 0) rfl) 7 (.bool false) rfl)) ?_;
   (case hr => first | (go_simp; done) | (go_simp; rfl));
   intro JR n_;
   clear H c_z z_z c_t c_m;
   have H := n_;
   clear n_;
   have c_z := H.out.cell (g := gz) aP;
   have z_z := H.out.frozen (g := gz) aP;
   have c_t := H.out.cell (g := gt) mem1;
   have c_m := H.out.cell (g := gm) mem2)
 |fail)
  refine bodyPost_ret (dH (rs := [.cell 4 30, .tmp 5]) rfl (by simp) (.cell gz 30 _ _ _ rfl (H.out.jF (g := gz) aP) Tryz.underlying30 rfl info30 (.tmp .nil))) rfl ?_
  subst hOV
  exact ⟨none, 0, rfl, ⟨Sep.eU (Sep.eG (Sep.drop1 (Sep.drop2 H.out)))⟩⟩
theorem JV (A : Option Addr) (c : Nat) (L : Lg) (d : ByteArray) (w : World) (hr : Kd.C k67 w A L.l.length L.l) (hc : L.l.length ≤ c) (hG : Gl w) (h0 : 0 ≤ L.nx) (hn : L.nx < 18446744073709551616) :
  Calls Tryz.prog 31 #[.agg (lgc A c L).toArray, .string d] w fun e w' => ∃ A' c', e = .returned (.tuple #[.agg (lgc A' c' (dG L d).1).toArray, .int .i64 (dG L d).2])
   ∧ aC (Sep w w' [lV A' c' (dG L d).1.l]) := by
 obtain ⟨l, dn, fu, fa, size, fr, nx, br⟩ := L
 obtain ⟨n, hnn⟩ := Int.eq_ofNat_of_zero_le h0
 simp only at hnn
 subst hnn
 simp only at hn
 exact Q9 A c l dn fu fa size fr n br d w hr hc hG (by omega)
open Classical in
noncomputable def jH (L : Lg) (q : Int) : Lg × Int := if okL L then tY L q else (Lz, 6)
set_option maxHeartbeats 8000000 in
theorem ZP (A : Option Addr) (c : Nat) (l : List S67) (dn : Bool) (fu fa size fr : Int) (n : Nat) (br : Bool) (q : Int) (hq : 0 ≤ q) (w : World) (hr : Kd.C k67 w A l.length l) (hc : l.length ≤ c) (hG : Gl w) (hn : n < 18446744073709551616) :
  Calls Tryz.prog 34 #[.agg #[.slice A l.length c, .bool dn, .int .i64 fu, .int .i64 fa, .int .i64 size, .int .u64 fr, .int .u64 (n : Int), .bool br], .int .u64 q] w fun e w' => ∃ A' c', e = .returned (.tuple #[.agg (lgc A' c' (jH ⟨l, dn, fu, fa, size, fr, (n : Int), br⟩ q).1).toArray, .int .i64 (jH ⟨l, dn, fu, fa, size, fr, (n : Int), br⟩ q).2])
   ∧ aC (Sep w w' [lV A' c' (jH ⟨l, dn, fu, fa, size, fr, (n : Int), br⟩ q).1.l]) := by
 have HRp := aC.mk hr
 have HCp := aC.mk hc
 have HG := aC.mk hG
 clear hr hc hG
 obtain ⟨O, hO⟩ : ∃ O, O = jH ⟨l, dn, fu, fa, size, fr, (n : Int), br⟩ q := ⟨_, rfl⟩
 rw [← hO]
 have HO := aC.mk hO
 clear hO
 have H := aC.mk (Sep.start w)
 go_enter Tryz.func34, Tryz.ntmps34
 go_wp2_with (first
 |((with_reducible refine aU (N := 2) rfl ?_);
   refine bK rfl H (cs := [.slice A l.length c, .bool dn, .int .i64 fu, .int .i64 fa, .int .i64 size, .int .u64 fr, .int .u64 (n : Int), .bool br]) (t := 30) ?hr ?_;
   (case hr => first | (go_simp; done) | (go_simp; rfl));
   intro gm wd1 n_;
   simp only [Act.put, zA, zZ, zS];
   clear H;
   have H := n_;
   clear n_;
   have c_m := H.out.cell (g := gm) aP)
 |((with_reducible refine aU (N := 3) rfl ?_);
   refine bK rfl H (cs := [.int .u64 q]) (t := 28) ?hr ?_;
   (case hr => first | (go_simp; done) | (go_simp; rfl));
   intro gt wd2 n_;
   simp only [Act.put, zA, zZ, zS];
   clear H c_m;
   have H := n_;
   clear n_;
   have c_t := H.out.cell (g := gt) aP;
   have c_m := H.out.cell (g := gm) mem1)
 |((with_reducible refine aU (N := 4) rfl ?_);
   refine bK rfl H (cs := [.slice none 0 0, .bool false, .int .i64 0, .int .i64 0, .int .i64 0, .int .u64 0, .int .u64 0, .bool false]) (t := 30) ?hr ?_;
   (case hr => first | (go_simp; done) | (go_simp; rfl));
   intro gz wd3 n_;
   simp only [Act.put, zA, zZ, zS];
   clear H c_t c_m;
   have H := n_;
   clear n_;
   have c_z := H.out.cell (g := gz) aP;
   have c_t := H.out.cell (g := gt) mem1;
   have c_m := H.out.cell (g := gm) mem2)
 |fail)
 by_cases hok : okL ⟨l, dn, fu, fa, size, fr, (n : Int), br⟩
 ·
  refine ((fH.calls A c l dn fu fa size fr (n : Int) br 0 _ (H.out.came HRp.out) HCp.out (by have h := xC ⟨l, dn, fu, fa, size, fr, (n : Int), br⟩; rw [if_pos hok] at h; exact h)).mono ?_)
  rintro e wd4 ⟨rfl, hb_⟩
  have n_ : aC (Sep w wd4 [box gz [.slice none 0 0, .bool false, .int .i64 0, .int .i64 0, .int .i64 0, .int .u64 0, .int .u64 0, .bool false] 30, box gt [.int .u64 q] 28, box gm [.slice A l.length c, .bool dn, .int .i64 fu, .int .i64 fa, .int .i64 size, .int .u64 fr, .int .u64 (n : Int), .bool br] 30]) := ⟨H.out.step hb_⟩
  clear H c_z c_t c_m
  have H := n_
  clear n_
  have c_z := H.out.cell (g := gz) aP
  have c_t := H.out.cell (g := gt) mem1
  have c_m := H.out.cell (g := gm) mem2
  clear hb_
  have hlen : l.length ≤ 64 := jZ hok.1
  have hs1 : 1 ≤ size := hok.2.1
  have hs2 : size ≤ 262144 := hok.2.2.1
  have hok1 : bI l = true := hok.1
  have QZ := aC.mk hok1
  have hOV : O = tY ⟨l, dn, fu, fa, size, fr, (n : Int), br⟩ q := by rw [HO.out, jH, if_pos hok]
  have HOV := aC.mk hOV
  clear hok hok1 HO hOV
  go_wp2_with fail
  refine ((NH A c l dn fu fa _ (H.out.came HRp.out) hlen).mono ?_)
  rintro e wd5 ⟨A3, c3, rfl, HJ⟩
  have n_ : aC (Sep w wd5 [row k67 67 (.slice A3 (l).length c3) l, box gz [.slice none 0 0, .bool false, .int .i64 0, .int .i64 0, .int .i64 0, .int .u64 0, .int .u64 0, .bool false] 30, box gt [.int .u64 q] 28, box gm [.slice A l.length c, .bool dn, .int .i64 fu, .int .i64 fa, .int .i64 size, .int .u64 fr, .int .u64 (n : Int), .bool br] 30]) := ⟨fM H.out HJ.out⟩
  clear H c_z c_t c_m
  have H := n_
  clear n_
  have c_z := H.out.cell (g := gz) mem1
  have c_t := H.out.cell (g := gt) mem2
  have c_m := H.out.cell (g := gm) mem3
  have z_m := H.out.frozen (g := gm) mem3
  clear HJ
  go_wp2_with (first
 |((with_reducible refine aV (t := 27) (p := 14) rfl ?_);
   refine bH (rs1 := [row k67 67 (.slice A3 (l).length c3) l, box gz [.slice none 0 0, .bool false, .int .i64 0, .int .i64 0, .int .i64 0, .int .u64 0, .int .u64 0, .bool false] 30, box gt [.int .u64 q] 28, box gm [.slice A3 l.length c3, .bool dn, .int .i64 fu, .int .i64 fa, .int .i64 size, .int .u64 fr, .int .u64 (n : Int), .bool br] 30]) rfl (t := 27) (p := 14) rfl rfl ?hr (H1 := (Sep.dY (Sep.dY (Sep.dY (Sep.dY H.out 0 (.slice A3 l.length c3) rfl) 1 (.bool dn) rfl) 2 (.int .i64 fu) rfl) 3 (.int .i64 fa) rfl)) ?_;
   (case hr => first | (go_simp; done) | (go_simp; rfl));
   intro wd6 n_;
   clear H c_z c_t c_m z_m;
   have H := n_;
   clear n_;
   have c_z := H.out.cell (g := gz) mem1;
   have c_t := H.out.cell (g := gt) mem2;
   have c_m := H.out.cell (g := gm) mem3;
   have z_m := H.out.frozen (g := gm) mem3)
 |((with_reducible refine aU (N := 17) rfl ?_);
   refine bK rfl H (cs := [.slice A3 l.length c3, .bool dn, .int .i64 fu, .int .i64 fa, .int .i64 size, .int .u64 fr, .int .u64 (n : Int), .bool br]) (t := 134) ?hr ?_;
   (case hr => first | (go_simp; done) | (go_simp; rfl));
   intro gl wd7 n_;
   simp only [Act.put, zA, zZ, zS];
   clear H c_z c_t c_m z_m;
   have H := n_;
   clear n_;
   have c_l := H.out.cell (g := gl) aP;
   have c_z := H.out.cell (g := gz) mem2;
   have c_t := H.out.cell (g := gt) mem3;
   have c_m := H.out.cell (g := gm) bT;
   have z_m := H.out.frozen (g := gm) bT)
 |((with_reducible refine aU (N := 6) rfl ?_);
   refine bK rfl H (cs := [.pointer none]) (t := 131) ?hr ?_;
   (case hr => first | (go_simp; done) | (go_simp; rfl));
   intro gv wd8 n_;
   simp only [Act.put, zA, zZ, zS];
   clear H c_l c_z c_t c_m z_m;
   have H := n_;
   clear n_;
   have c_v := H.out.cell (g := gv) aP;
   have z_v := H.out.frozen (g := gv) aP;
   have c_l := H.out.cell (g := gl) mem1;
   have c_z := H.out.cell (g := gz) mem3;
   have c_t := H.out.cell (g := gt) bT;
   have c_m := H.out.cell (g := gm) dM;
   have z_m := H.out.frozen (g := gm) dM)
 |((with_reducible refine aV (t := 131) (p := 6) rfl ?_);
   refine bH (rs1 := [box gv [.pointer (some ⟨gl, 0, none⟩)] 131, box gl [.slice A3 l.length c3, .bool dn, .int .i64 fu, .int .i64 fa, .int .i64 size, .int .u64 fr, .int .u64 (n : Int), .bool br] 134, row k67 67 (.slice A3 (l).length c3) l, box gz [.slice none 0 0, .bool false, .int .i64 0, .int .i64 0, .int .i64 0, .int .u64 0, .int .u64 0, .bool false] 30, box gt [.int .u64 q] 28, box gm [.slice A3 l.length c3, .bool dn, .int .i64 fu, .int .i64 fa, .int .i64 size, .int .u64 fr, .int .u64 (n : Int), .bool br] 30]) rfl (t := 131) (p := 6) rfl rfl ?hr (H1 := (Sep.set0 H.out 0 (.pointer (some ⟨gl, 0, none⟩)) rfl)) ?_;
   (case hr => first | (go_simp; done) | (go_simp; rfl));
   intro wd9 n_;
   clear H c_v z_v c_l c_z c_t c_m z_m;
   have H := n_;
   clear n_;
   have c_v := H.out.cell (g := gv) aP;
   have z_v := H.out.frozen (g := gv) aP;
   have c_l := H.out.cell (g := gl) mem1;
   have c_z := H.out.cell (g := gz) mem3;
   have c_t := H.out.cell (g := gt) bT;
   have c_m := H.out.cell (g := gm) dM;
   have z_m := H.out.frozen (g := gm) dM)
 |fail)
  have hdo := wY (qci w gl gm gt gv l dn fu fa size fr n br q A3 c3 QZ.out (HG.out) hn hq) [box gz [.slice none 0 0, .bool false, .int .i64 0, .int .i64 0, .int .i64 0, .int .u64 0, .int .u64 0, .bool false] 30]
  rw [← HOV.out] at hdo
  refine (AX hdo (fun args w => by simp [go_sem]) A3 c3 _ ⟨(Sep.rX (Sep.rX (Sep.rX (Sep.iR (Sep.iW (Sep.oZ H.out))))))⟩).mono ?_
  rintro e ED ⟨A4, c4, rfl, H2⟩
  clear hdo
  have n_ : aC (Sep w ED [box gl [.slice A4 O.1.l.length c4, .bool O.1.dn, .int .i64 O.1.fu, .int .i64 O.1.fa, .int .i64 O.1.size, .int .u64 O.1.fr, .int .u64 O.1.nx, .bool O.1.br] 134, row k67 67 (.slice A4 (O.1.l).length c4) O.1.l, box gm [.slice A3 l.length c3, .bool dn, .int .i64 fu, .int .i64 fa, .int .i64 size, .int .u64 fr, .int .u64 (n : Int), .bool br] 30, box gt [.int .u64 q] 28, box gv [.pointer (some ⟨gl, 0, none⟩)] 131, box gz [.slice none 0 0, .bool false, .int .i64 0, .int .i64 0, .int .i64 0, .int .u64 0, .int .u64 0, .bool false] 30]) := ⟨H2.out⟩
  clear H c_v z_v c_l c_z c_t c_m z_m
  have H := n_
  clear n_
  have c_l := H.out.cell (g := gl) aP
  have c_m := H.out.cell (g := gm) mem2
  have c_t := H.out.cell (g := gt) mem3
  have c_v := H.out.cell (g := gv) bT
  have c_z := H.out.cell (g := gz) dM
  have z_z := H.out.frozen (g := gz) dM
  clear H2
  simp only [lgc]
  go_wp2_with (first
 |((with_reducible refine aV (t := 30) (p := 4) rfl ?_);
   refine bH (rs1 := [box gl [.slice A4 O.1.l.length c4, .bool O.1.dn, .int .i64 O.1.fu, .int .i64 O.1.fa, .int .i64 O.1.size, .int .u64 O.1.fr, .int .u64 O.1.nx, .bool O.1.br] 134, row k67 67 (.slice A4 (O.1.l).length c4) O.1.l, box gm [.slice A3 l.length c3, .bool dn, .int .i64 fu, .int .i64 fa, .int .i64 size, .int .u64 fr, .int .u64 (n : Int), .bool br] 30, box gt [.int .u64 q] 28, box gv [.pointer (some ⟨gl, 0, none⟩)] 131, box gz [.slice A4 O.1.l.length c4, .bool O.1.dn, .int .i64 O.1.fu, .int .i64 O.1.fa, .int .i64 O.1.size, .int .u64 O.1.fr, .int .u64 O.1.nx, .bool O.1.br] 30]) rfl (t := 30) (p := 4) rfl rfl ?hr (H1 := (Sep.gY (Sep.gY (Sep.gY (Sep.gY (Sep.gY (Sep.gY (Sep.gY (Sep.gY H.out 0 (.slice A4 O.1.l.length c4) rfl) 1 (.bool O.1.dn) rfl) 2 (.int .i64 O.1.fu) rfl) 3 (.int .i64 O.1.fa) rfl) 4 (.int .i64 O.1.size) rfl) 5 (.int .u64 O.1.fr) rfl) 6 (.int .u64 O.1.nx) rfl) 7 (.bool O.1.br) rfl)) ?_;
   (case hr => first | (go_simp; done) | (go_simp; rfl));
   intro NJ n_;
   clear H c_l c_m c_t c_v c_z z_z;
   have H := n_;
   clear n_;
   have c_l := H.out.cell (g := gl) aP;
   have c_m := H.out.cell (g := gm) mem2;
   have c_t := H.out.cell (g := gt) mem3;
   have c_v := H.out.cell (g := gv) bT;
   have c_z := H.out.cell (g := gz) dM;
   have z_z := H.out.frozen (g := gz) dM)
 |fail)
  refine bodyPost_ret (dH (rs := [.cell 4 30, .tmp 5]) rfl (by simp) (.cell gz 30 _ _ _ rfl (H.out.jF (g := gz) dM) Tryz.underlying30 rfl info30 (.tmp .nil))) rfl ?_
  exact ⟨A4, c4, rfl, ⟨(Sep.eG (Sep.drop2 (Sep.iJ (Sep.lC (Sep.sQ H.out)))))⟩⟩
 ·
  refine ((fH.calls A c l dn fu fa size fr (n : Int) br 6 _ (H.out.came HRp.out) HCp.out (by have h := xC ⟨l, dn, fu, fa, size, fr, (n : Int), br⟩; rw [if_neg hok] at h; exact h)).mono ?_)
  rintro e JQ ⟨rfl, hb_⟩
  have n_ : aC (Sep w JQ [box gz [.slice none 0 0, .bool false, .int .i64 0, .int .i64 0, .int .i64 0, .int .u64 0, .int .u64 0, .bool false] 30, box gt [.int .u64 q] 28, box gm [.slice A l.length c, .bool dn, .int .i64 fu, .int .i64 fa, .int .i64 size, .int .u64 fr, .int .u64 (n : Int), .bool br] 30]) := ⟨H.out.step hb_⟩
  clear H c_z c_t c_m
  have H := n_
  clear n_
  have c_z := H.out.cell (g := gz) aP
  have c_t := H.out.cell (g := gt) mem1
  have c_m := H.out.cell (g := gm) mem2
  clear hb_
  have hOV : O = (Lz, 6) := by rw [HO.out, jH, if_neg hok]
  clear HO hok
  clear c_z c_t c_m
  have c_z := H.out.cell (g := gz) aP
  have z_z := H.out.frozen (g := gz) aP
  have c_t := H.out.cell (g := gt) mem1
  have c_m := H.out.cell (g := gm) mem2
  go_wp2_with (first
 |((with_reducible refine aV (t := 30) (p := 4) rfl ?_);
   refine bH (rs1 := [box gz [.slice none 0 0, .bool false, .int .i64 0, .int .i64 0, .int .i64 0, .int .u64 0, .int .u64 0, .bool false] 30, box gt [.int .u64 q] 28, box gm [.slice A l.length c, .bool dn, .int .i64 fu, .int .i64 fa, .int .i64 size, .int .u64 fr, .int .u64 (n : Int), .bool br] 30]) rfl (t := 30) (p := 4) rfl rfl ?hr (H1 := (Sep.set0 (Sep.set0 (Sep.set0 (Sep.set0 (Sep.set0 (Sep.set0 (Sep.set0 (Sep.set0 H.out 0 (.slice none 0 0) rfl) 1 (.bool false) rfl) 2 (.int .i64 0) rfl) 3 (.int .i64 0) rfl) 4 (.int .i64 0) rfl) 5 (.int .u64 0) rfl) 6 (.int .u64 0) rfl) 7 (.bool false) rfl)) ?_;
   (case hr => first | (go_simp; done) | (go_simp; rfl));
   intro JR n_;
   clear H c_z z_z c_t c_m;
   have H := n_;
   clear n_;
   have c_z := H.out.cell (g := gz) aP;
   have z_z := H.out.frozen (g := gz) aP;
   have c_t := H.out.cell (g := gt) mem1;
   have c_m := H.out.cell (g := gm) mem2)
 |fail)
  refine bodyPost_ret (dH (rs := [.cell 4 30, .tmp 5]) rfl (by simp) (.cell gz 30 _ _ _ rfl (H.out.jF (g := gz) aP) Tryz.underlying30 rfl info30 (.tmp .nil))) rfl ?_
  subst hOV
  exact ⟨none, 0, rfl, ⟨Sep.eU (Sep.eG (Sep.drop1 (Sep.drop2 H.out)))⟩⟩
theorem RD (A : Option Addr) (c : Nat) (L : Lg) (q : Int) (hq : 0 ≤ q) (w : World) (hr : Kd.C k67 w A L.l.length L.l) (hc : L.l.length ≤ c) (hG : Gl w) (h0 : 0 ≤ L.nx) (hn : L.nx < 18446744073709551616) :
  Calls Tryz.prog 34 #[.agg (lgc A c L).toArray, .int .u64 q] w fun e w' => ∃ A' c', e = .returned (.tuple #[.agg (lgc A' c' (jH L q).1).toArray, .int .i64 (jH L q).2])
   ∧ aC (Sep w w' [lV A' c' (jH L q).1.l]) := by
 obtain ⟨l, dn, fu, fa, size, fr, nx, br⟩ := L
 obtain ⟨n, hnn⟩ := Int.eq_ofNat_of_zero_le h0
 simp only at hnn
 subst hnn
 simp only at hn
 exact ZP A c l dn fu fa size fr n br q hq w hr hc hG (by omega)
open Classical in
noncomputable def RF (L : Lg) : List S62 × Int := if okL L then (if L.br = true then ([], 6) else if L.dn = true then ([], 17) else (bV (findF L.l).recs (dP (aN L.l)), 0)) else ([], 6)
structure Qu where
 L : Lg
 es : List S41
 most : Int
def qc (A : Option Addr) (c : Nat) (B : Option Addr) (d : Nat) (Q : Qu) : List Value := lgc A c Q.L ++ [.slice B Q.es.length d, .int .i64 Q.most]
abbrev rG (B : Option Addr) (d : Nat) (l : List S41) : Res := row k41 41 (.slice B l.length d) l
theorem ZQ {W : World} {base : Nat} {ok1 ok2 : Nat → Prop} {x : S41} {cs : List Value} (h : k41.M W 0 ok1 x cs) : k41.M W base ok2 x cs := by
 obtain rfl := KW h
 exact GU _ _ _ _
theorem xE : Flat k41 := ZQ
theorem info33 : (Tryz.prog.info? 33).map (fun i => i.size) = some 10 := by kernel_rfl
theorem xZ : (Tryz.prog.info? 41).map (fun i => i.size) = some 3 := by kernel_rfl
theorem rP (n : Int) (w : World) : Calls Tryz.prog 54 #[.bool true, .int .i64 n] w fun e w' => e = .returned (.tuple #[]) ∧ w' = w := by
 go_enter Tryz.func54, Tryz.ntmps54
 go_wp2
 go_end0
 exact ⟨rfl, rfl⟩
theorem uM (n : Int) (w : World) : Calls Tryz.prog 54 #[.bool false, .int .i64 n] w fun e w' => e = .panicked [{ v := .iface 34 (.int .i64 n), recovered := false }] ∧ w' = w := by
 go_enter Tryz.func54, Tryz.ntmps54
 go_wp2
 exact ⟨rfl, rfl, rfl⟩
set_option maxHeartbeats 4000000 in
theorem qdK {b w : World} {rs : List Res} (gl : Nat) (A : Option Addr) (c : Nat) (B : Option Addr) (d : Nat) (Q : Qu) (A1 : Option Addr) (c1 : Nat) (L1 : Lg) (H0 : aC (Sep b w (box gl (qc A c B d Q) 101 :: rs))) :
  Calls Tryz.prog 55 #[.pointer (some ⟨gl, 0, none⟩), .agg (lgc A1 c1 L1).toArray, .int .i64 0] w fun e w' => e = .returned (.tuple #[]) ∧ aC (Sep b w' (box gl (qc A1 c1 B d ⟨L1, Q.es, Q.most⟩) 101 :: rs)) := by
 have H : aC (Sep b w (box gl [.slice A Q.L.l.length c, .bool Q.L.dn, .int .i64 Q.L.fu, .int .i64 Q.L.fa, .int .i64 Q.L.size, .int .u64 Q.L.fr, .int .u64 Q.L.nx, .bool Q.L.br, .slice B Q.es.length d, .int .i64 Q.most] 101 :: rs)) := H0
 clear H0
 simp only [lgc]
 have c_l := H.out.cell (g := gl) aP
 have z_l := H.out.frozen (g := gl) aP
 go_enter Tryz.func55, Tryz.ntmps55
 go_wp2_with (first
 |((with_reducible refine aU (N := 4) rfl ?_);
   refine bK rfl H (cs := [.slice A1 L1.l.length c1, .bool L1.dn, .int .i64 L1.fu, .int .i64 L1.fa, .int .i64 L1.size, .int .u64 L1.fr, .int .u64 L1.nx, .bool L1.br]) (t := 30) ?hr ?_;
   (case hr => first | (go_simp; done) | (go_simp; rfl));
   intro gd wd1 n_;
   simp only [Act.put, zA, zZ, zS];
   clear H c_l z_l;
   have H := n_;
   clear n_;
   have c_d := H.out.cell (g := gd) aP;
   have z_d := H.out.frozen (g := gd) aP;
   have c_l := H.out.cell (g := gl) mem1;
   have z_l := H.out.frozen (g := gl) mem1)
 |((with_reducible refine aV (t := 30) (p := 10) rfl ?_);
   refine bH (rs1 := (box gd [.slice A1 L1.l.length c1, .bool L1.dn, .int .i64 L1.fu, .int .i64 L1.fa, .int .i64 L1.size, .int .u64 L1.fr, .int .u64 L1.nx, .bool L1.br] 30 :: box gl [.slice A1 L1.l.length c1, .bool L1.dn, .int .i64 L1.fu, .int .i64 L1.fa, .int .i64 L1.size, .int .u64 L1.fr, .int .u64 L1.nx, .bool L1.br, .slice B Q.es.length d, .int .i64 Q.most] 101 :: rs)) rfl (t := 30) (p := 10) rfl rfl ?hr (H1 := (Sep.set1 (Sep.set1 (Sep.set1 (Sep.set1 (Sep.set1 (Sep.set1 (Sep.set1 (Sep.set1 H.out 0 (.slice A1 L1.l.length c1) rfl) 1 (.bool L1.dn) rfl) 2 (.int .i64 L1.fu) rfl) 3 (.int .i64 L1.fa) rfl) 4 (.int .i64 L1.size) rfl) 5 (.int .u64 L1.fr) rfl) 6 (.int .u64 L1.nx) rfl) 7 (.bool L1.br) rfl)) ?_;
   (case hr => first | (go_simp; done) | (go_simp; rfl));
   intro wd2 n_;
   clear H c_d z_d c_l z_l;
   have H := n_;
   clear n_;
   have c_d := H.out.cell (g := gd) aP;
   have z_d := H.out.frozen (g := gd) aP;
   have c_l := H.out.cell (g := gl) mem1;
   have z_l := H.out.frozen (g := gl) mem1)
 |fail)
 refine (rP 0 _).mono ?_
 rintro e w_ ⟨rfl, rfl⟩
 go_wp2_with fail
 go_end0
 exact ⟨rfl, ⟨(Sep.eG H.out)⟩⟩
set_option maxHeartbeats 4000000 in
theorem qdL {b w : World} {rs : List Res} (gl : Nat) (A : Option Addr) (c : Nat) (B : Option Addr) (d : Nat) (Q : Qu) (A1 : Option Addr) (c1 : Nat) (L1 : Lg) (n : Int) (hn : n ≠ 0) (H0 : aC (Sep b w (box gl (qc A c B d Q) 101 :: rs))) :
  Calls Tryz.prog 55 #[.pointer (some ⟨gl, 0, none⟩), .agg (lgc A1 c1 L1).toArray, .int .i64 n] w fun e w' => e = .panicked [{ v := .iface 34 (.int .i64 n), recovered := false }] ∧ aC (Sep b w' (box gl (qc A1 c1 B d ⟨L1, Q.es, Q.most⟩) 101 :: rs)) := by
 have H : aC (Sep b w (box gl [.slice A Q.L.l.length c, .bool Q.L.dn, .int .i64 Q.L.fu, .int .i64 Q.L.fa, .int .i64 Q.L.size, .int .u64 Q.L.fr, .int .u64 Q.L.nx, .bool Q.L.br, .slice B Q.es.length d, .int .i64 Q.most] 101 :: rs)) := H0
 clear H0
 simp only [lgc]
 have c_l := H.out.cell (g := gl) aP
 have z_l := H.out.frozen (g := gl) aP
 go_enter Tryz.func55, Tryz.ntmps55
 have hnb : (n == 0) = false := by simpa using hn
 go_wp2_with (first
 |((with_reducible refine aU (N := 4) rfl ?_);
   refine bK rfl H (cs := [.slice A1 L1.l.length c1, .bool L1.dn, .int .i64 L1.fu, .int .i64 L1.fa, .int .i64 L1.size, .int .u64 L1.fr, .int .u64 L1.nx, .bool L1.br]) (t := 30) ?hr ?_;
   (case hr => first | (go_simp; done) | (go_simp; rfl));
   intro gd wd3 n_;
   simp only [Act.put, zA, zZ, zS];
   clear H c_l z_l;
   have H := n_;
   clear n_;
   have c_d := H.out.cell (g := gd) aP;
   have z_d := H.out.frozen (g := gd) aP;
   have c_l := H.out.cell (g := gl) mem1;
   have z_l := H.out.frozen (g := gl) mem1)
 |((with_reducible refine aV (t := 30) (p := 10) rfl ?_);
   refine bH (rs1 := (box gd [.slice A1 L1.l.length c1, .bool L1.dn, .int .i64 L1.fu, .int .i64 L1.fa, .int .i64 L1.size, .int .u64 L1.fr, .int .u64 L1.nx, .bool L1.br] 30 :: box gl [.slice A1 L1.l.length c1, .bool L1.dn, .int .i64 L1.fu, .int .i64 L1.fa, .int .i64 L1.size, .int .u64 L1.fr, .int .u64 L1.nx, .bool L1.br, .slice B Q.es.length d, .int .i64 Q.most] 101 :: rs)) rfl (t := 30) (p := 10) rfl rfl ?hr (H1 := (Sep.set1 (Sep.set1 (Sep.set1 (Sep.set1 (Sep.set1 (Sep.set1 (Sep.set1 (Sep.set1 H.out 0 (.slice A1 L1.l.length c1) rfl) 1 (.bool L1.dn) rfl) 2 (.int .i64 L1.fu) rfl) 3 (.int .i64 L1.fa) rfl) 4 (.int .i64 L1.size) rfl) 5 (.int .u64 L1.fr) rfl) 6 (.int .u64 L1.nx) rfl) 7 (.bool L1.br) rfl)) ?_;
   (case hr => first | (go_simp; done) | (go_simp; rfl));
   intro wd4 n_;
   clear H c_d z_d c_l z_l;
   have H := n_;
   clear n_;
   have c_d := H.out.cell (g := gd) aP;
   have z_d := H.out.frozen (g := gd) aP;
   have c_l := H.out.cell (g := gl) mem1;
   have z_l := H.out.frozen (g := gl) mem1)
 |fail)
 refine (uM n _).mono ?_
 rintro e w_ ⟨rfl, rfl⟩
 exact ⟨rfl, rfl, ⟨(Sep.eG H.out)⟩⟩
theorem log_any {b w : World} {rs : List Res} (gl : Nat) (A : Option Addr) (c : Nat) (B : Option Addr) (d : Nat) (Q : Qu) (A1 : Option Addr) (c1 : Nat) (L1 : Lg) (n : Int) (H0 : aC (Sep b w (box gl (qc A c B d Q) 101 :: rs))) :
  Calls Tryz.prog 55 #[.pointer (some ⟨gl, 0, none⟩), .agg (lgc A1 c1 L1).toArray, .int .i64 n] w fun e w' => Ends n e ∧ aC (Sep b w' (box gl (qc A1 c1 B d ⟨L1, Q.es, Q.most⟩) 101 :: rs)) := by
 by_cases hn : n = 0
 ·subst hn
  exact (qdK gl A c B d Q A1 c1 L1 H0).mono fun e w' h => ⟨.inl ⟨rfl, h.1⟩, h.2⟩
 ·exact (qdL gl A c B d Q A1 c1 L1 n hn H0).mono fun e w' h => ⟨.inr ⟨hn, h.1⟩, h.2⟩
def sF.f (l0 : List (S41)) : Option (List (S41)) := if l0.length < 4398046511104 then some l0 else none
set_option maxHeartbeats 1600000 in
theorem sF.calls (A0 : Option Addr) (c0 : Nat) (l0 : List (S41)) (r : List (S41)) (w : World) (hr0 : Kd.C k41 w A0 l0.length l0) (hc0 : l0.length ≤ c0) (h : sF.f l0 = some r) :
  Calls Tryz.prog 100 #[.slice A0 l0.length c0] w fun e w' => ∃ v0_ : Value, e = .returned v0_ ∧ Kd.R k41 41 w' w.heap.size (fun _ => True) v0_ r ∧ Below w.heap.size w w' := by
 unfold sF.f at h
 split at h
 case isFalse => cases h
 rename_i hn
 have HE := aC.mk (Option.some.inj h)
 clear h
 have HR := aC.mk hr0
 clear hr0
 have hnil : ∀ (a : Option Addr) (n c : Nat) (w : World), (binOp .eql 31 (.slice a n c) (.slice none 0 0)).run Tryz.prog w = .ok (.bool a.isNone) w := fun a n c w => by
  simp only [binOp]
  simp [Op.equal, Op.maxDepth, Lib.run_equalIn_slice_nil w 9999 31 41 a n c 0 0 Tryz.underlying31]
 cases A0 with
 | none =>
  have hl : l0 = [] := by
   cases l0 with
   | nil => rfl
   | cons x s => obtain ⟨ad, h, _⟩ := HR.out.2.2 (by simp); cases h
  go_enter Tryz.func100, Tryz.ntmps100
  go_wp2
  go_ret
  exact ⟨_, rfl, by rw [← HE.out, hl]; exact Kd.CB _ _ _ _ _, Below.refl _ _⟩
 | some ad =>
  go_enter Tryz.func100, Tryz.ntmps100
  go_wp2_with (first
 |((with_reducible refine aU (N := 5) rfl ?_);
   refine Kd.qcS k41 _ 41 ?hg (N := 5) ?hd (xs := ([] : List (S41))) (inner := []) (ok := fun _ => True) (okp := fun _ => True) ?hr ?hp (fun _ hk => hk) trivial (Below.refl _ _) (Nat.le_refl _) (by simp) ?_;
   (case hd => rfl); (case hg => rfl); (case hr => first | (go_simp; done) | (go_simp; rfl)); (case hp => exact (fF.none _ _));
   intro v5 w5 ho hb hg_ qaE; clear hg_ qaE; have HO := aC.mk ho; have HB := aC.mk hb; clear ho hb)
 |((with_reducible refine jC (b := .append) (xs := #[.tmp 5, .tmp 6]) rfl ?_); at_builtin;
   refine Kd.tK k41 (w0 := w) w.heap.size rfl (.tmp 5) (.tmp 6) 31 41 (.agg #[(.int .u64 0), (.string ⟨#[]⟩), (.bool false)]) 32 rfl Tryz.underlying31 MR rfl (by decide) (by omega) v5 [] l0 _ _ _ (fun _ => True) (fun _ => False) rfl rfl ?aO ?aR (fun _ _ h => h) (fun _ h => h.elim) ?aF ?aB ?aS ?aL ?_;
   (case aR => exact Kd.fK HR.out HB.out); (case aB => exact HB.out); (case aF => exact fun _ _ => trivial); (case aO => exact HO.out); (case aS => exact HB.out.size); (case aL => simp only [List.length_nil]; omega);
   intro v7 w9 ho hb hg hat; clear hg hat; have HO2 := aC.mk ho; have HB2 := aC.mk hb; clear ho hb))
  go_ret
  exact ⟨_, rfl, by rw [← HE.out]; exact HO2.out, HB2.out⟩
theorem qbc (A : Option Addr) (c : Nat) (l : List S41) (w : World) (hr : Kd.C k41 w A l.length l) (hc : l.length ≤ c) (hl : l.length ≤ 1024) :
  Calls Tryz.prog 100 #[.slice A l.length c] w fun e w' => ∃ A' c', e = .returned (.slice A' l.length c') ∧ aC (Sep w w' [rG A' c' l]) := by
 refine (sF.calls A c l l w hr hc (by rw [sF.f, if_pos (by omega)])).mono ?_
 rintro e w' ⟨v, rfl, ho, hb⟩
 obtain ⟨A1, c1, rfl⟩ := Kd.dZ ho
 exact ⟨A1, c1, rfl, ⟨(Sep.start w).jQ hb ho xE⟩⟩
theorem qbe (A : Option Addr) (c : Nat) (l : List S67) (w : World) (hr : Kd.C k67 w A l.length l) (hc : l.length ≤ c) (hl : l.length ≤ 64) :
  Calls Tryz.prog 63 #[.slice A l.length c] w fun e w' => ∃ A' c', e = .returned (.slice A' l.length c') ∧ aC (Sep w w' [lV A' c' l]) := by
 refine (rZ.calls A c l l w hr hc (by rw [rZ.f, if_pos (by omega)])).mono ?_
 rintro e w' ⟨v, rfl, ho, hb⟩
 obtain ⟨A1, c1, rfl⟩ := Kd.dZ ho
 exact ⟨A1, c1, rfl, ⟨(Sep.start w).jQ hb ho o9⟩⟩
end Go.Proofs.U
namespace Go.Proofs.UE
open Go.Proofs.U Go.RowKit Go.Proofs.aA.aK Go.Proofs.aA.aW Go.Proofs.aA.aX Go.Proofs.Sp Go.Proofs.gB
def cells3 (x : S41) : List Value := [.int .u64 x.f0, .string x.f1, .bool x.f2]
def cellsOf (l : List S41) : List Value := l.flatMap cells3
theorem bZ (x : S41) (l : List S41) : cellsOf (x :: l) = .int .u64 x.f0 :: .string x.f1 :: .bool x.f2 :: cellsOf l := rfl
theorem o7 (a b : List S41) : cellsOf (a ++ b) = cellsOf a ++ cellsOf b := by simp [cellsOf]
theorem cellsOf_length : ∀ l : List S41, (cellsOf l).length = l.length * 3
 | [] => rfl
 | x :: l => by rw [bZ]; simp only [List.length_cons]; rw [cellsOf_length l]; omega
theorem jR : ∀ (l : List S41) (i : Nat), cellsOf (l.take i) = (cellsOf l).take (i * 3)
 | [], i => by simp [cellsOf]
 | x :: l, 0 => by simp [cellsOf]
 | x :: l, i + 1 => by
  rw [List.take_succ_cons, bZ, bZ, jR l i, show (i + 1) * 3 = i * 3 + 1 + 1 + 1 by omega]
  simp only [List.take_succ_cons]
theorem kL : ∀ (l : List S41) (i : Nat), cellsOf (l.drop i) = (cellsOf l).drop (i * 3)
 | [], i => by simp [cellsOf]
 | x :: l, 0 => by simp
 | x :: l, i + 1 => by
  rw [List.drop_succ_cons, bZ, kL l i, show (i + 1) * 3 = i * 3 + 1 + 1 + 1 by omega]
  simp only [List.drop_succ_cons]
theorem lS : ∀ (l : List S41) (i : Nat) (x : S41) (u : ByteArray), l[i]? = some x → (cellsOf l).set (i * 3 + 1) (.string u) = cellsOf (l.set i ⟨x.f0, u, x.f2⟩)
 | [], i, x, u, h => by simp at h
 | y :: l, 0, x, u, h => by
  obtain rfl : y = x := by simpa using h
  simp [bZ]
 | y :: l, i + 1, x, u, h => by
  show _ = cellsOf (y :: l.set i _)
  rw [bZ, bZ, ← lS l i x u (by simpa using h), show (i + 1) * 3 + 1 = i * 3 + 1 + 1 + 1 + 1 by omega]
  simp only [zS]
theorem jS : ∀ (l : List S41) (i : Nat) (x : S41) (u : Bool), l[i]? = some x → (cellsOf l).set (i * 3 + 2) (.bool u) = cellsOf (l.set i ⟨x.f0, x.f1, u⟩)
 | [], i, x, u, h => by simp at h
 | y :: l, 0, x, u, h => by
  obtain rfl : y = x := by simpa using h
  simp [bZ]
 | y :: l, i + 1, x, u, h => by
  show _ = cellsOf (y :: l.set i _)
  rw [bZ, bZ, ← jS l i x u (by simpa using h), show (i + 1) * 3 + 2 = i * 3 + 2 + 1 + 1 + 1 by omega]
  simp only [zS]
theorem jD : ∀ (l : List S41) (i : Nat) (x : S41), l[i]? = some x → (cellsOf l)[i * 3]? = some (.int .u64 x.f0) ∧ (cellsOf l)[i * 3 + 1]? = some (.string x.f1) ∧ (cellsOf l)[i * 3 + 2]? = some (.bool x.f2)
 | [], i, x, h => by simp at h
 | y :: l, 0, x, h => by
  obtain rfl : y = x := by simpa using h
  simp [bZ]
 | y :: l, i + 1, x, h => by
  have ih := jD l i x (by simpa using h)
  rw [bZ, show (i + 1) * 3 = i * 3 + 1 + 1 + 1 by omega]
  simp only [List.getElem?_cons_succ]
  exact ih
theorem qK (l : List S41) : ∀ u ∈ cellsOf l, u.oneCell' = true := by
 intro u hu
 simp only [cellsOf, List.mem_flatMap, cells3] at hu
 obtain ⟨x, _, hx⟩ := hu
 simp only [List.mem_cons, List.not_mem_nil, or_false] at hx
 rcases hx with rfl | rfl | rfl <;> rfl
theorem add_plain' (g k j : Nat) : (⟨g, k, none⟩ : Addr).add j = ⟨g, k + j, none⟩ := by unfold Addr.add; split <;> simp_all
theorem AB (w : World) (base : Nat) (ok : Nat → Prop) : ∀ l : List S41, fF (k41.M w base ok) 3 l (cellsOf l) := by
 intro l
 refine ⟨cellsOf_length l, fun j p hj => ?_⟩
 rw [← kL, show ((3 : Nat)) = 1 * 3 from rfl, ← jR]
 have hlt : j < l.length := (List.getElem?_eq_some_iff.1 hj).1
 have e : (l.drop j).take 1 = [p] := by
  rw [List.drop_eq_getElem_cons hlt]
  have := (List.getElem?_eq_some_iff.1 hj).2
  simp [this]
 rw [e]
 exact GU w base ok p
theorem AL {w : World} {base : Nat} {ok : Nat → Prop} : ∀ {l : List S41} {cs : List Value}, fF (k41.M w base ok) 3 l cs → cs = cellsOf l := by
 intro l
 induction l with
 | nil =>
  intro cs h
  have := h.1
  simp at this
  rw [this]; rfl
 | cons x l ih =>
  intro cs h
  have h0 := KW (h.2 0 x rfl)
  simp only [Nat.zero_mul, List.drop_zero] at h0
  have hl := h.1
  simp only [List.length_cons] at hl
  have h1 : fF (k41.M w base ok) 3 l (cs.drop 3) := by
   refine ⟨by rw [List.length_drop]; omega, fun j p hj => ?_⟩
   have := h.2 (j + 1) p (by simpa using hj)
   rw [List.drop_drop, show 3 + j * 3 = (j + 1) * 3 by omega]
   exact this
  rw [bZ, ← ih h1]
  have e : cs = cs.take 3 ++ cs.drop 3 := (List.take_append_drop 3 cs).symm
  rw [h0] at e
  exact e
theorem rV {w : World} {base : Nat} {ok : Nat → Prop} {v : Value} {l : List S41} (h : Kd.R k41 41 w base ok v l) : w.ownsRow base 41 3 v l.length (cellsOf l) := by
 obtain ⟨_, inner, ho, hr⟩ := h
 rw [← AL hr]
 exact ho
theorem l9 {w : World} {base : Nat} {v : Value} {l : List S41} (h : w.ownsRow base 41 3 v l.length (cellsOf l)) : Kd.R k41 41 w base (fun _ => True) v l :=
 ⟨fun _ _ => trivial, cellsOf l, h, AB _ _ _ l⟩
theorem lT {w : World} {base : Nat} {ok : Nat → Prop} {A : Option Addr} {n c : Nat} {l : List S41} (h : Kd.R k41 41 w base ok (.slice A n c) l) (hne : 0 < l.length) :
  ∃ g cur, A = some ⟨g, 0, none⟩ ∧ n = l.length ∧ base ≤ g ∧ w.heap[g]? = some (.cells cur 41 (0, 0)) ∧ l.length ≤ c ∧ c ≤ maxLen ∧ cur.size = c * 3 ∧ cur.toList.take (l.length * 3) = cellsOf l := by
 obtain ⟨_, h2 | ⟨g, cap, cur, he, hb, hh, h3, h4, h5, h6⟩⟩ := rV h
 ·omega
 ·injection he with e1 e2 e3
  subst e1 e2 e3
  exact ⟨g, cur, rfl, rfl, hb, hh, h3, h4, h5, h6⟩
theorem kG {w : World} {g : Nat} {cur : Array Value} {l : List S41} {j : Nat} {u : Value} (hh : w.heap[g]? = some (.cells cur 41 (0, 0))) (h6 : cur.toList.take (l.length * 3) = cellsOf l) (hj : (cellsOf l)[j]? = some u) :
  w.cell? ⟨g, j, none⟩ = some u := by
 have hlt : j < l.length * 3 := by
  have := (List.getElem?_eq_some_iff.1 hj).1
  rwa [cellsOf_length] at this
 rw [aH hh]
 rw [← h6, List.getElem?_take_of_lt hlt] at hj
 rw [← hj]
 simp
theorem G9 {w : World} {base g c j : Nat} {l l' : List S41} {u : Value} (h : Kd.R k41 41 w base (fun _ => True) (.slice (some ⟨g, 0, none⟩) l.length c) l) (hl : l'.length = l.length) (he : (cellsOf l).set j u = cellsOf l') (hj : j < l.length * 3) :
  Kd.R k41 41 (w.setCell ⟨g, j, none⟩ u) base (fun _ => True) (.slice (some ⟨g, 0, none⟩) l'.length c) l' := by
 obtain ⟨g', cur, hg, _, hb, hh, h3, h4, h5, h6⟩ := lT h (by omega)
 injection hg with hg
 injection hg with hg
 subst hg
 refine l9 ⟨by rw [cellsOf_length], .inr ⟨g, c, cur.setIfInBounds j u, rfl, hb, BZ hh j u, by omega, h4, by simpa using h5, ?_⟩⟩
 rw [← he, ← h6, hl]
 simp [List.take_set]
theorem OY : ∃ i0, Tryz.prog.info? 41 = some i0 ∧ i0.zero = some (.agg #[(.int .u64 0), (.string ⟨#[]⟩), (.bool false)]) ∧ i0.size = 3 ∧ i0.bytes = 32 := by
 obtain ⟨i0, hi, he⟩ := Option.map_eq_some_iff.1 MR
 simp only [Prod.mk.injEq] at he
 exact ⟨i0, hi, he⟩
theorem qdM (w : World) : (zeroValue 41).run Tryz.prog w = .ok (.agg #[.int .u64 0, .string ⟨#[]⟩, .bool false]) w := by kernel_rfl
theorem RG (w : World) (ty g o c : Nat) (hc : ∀ j, j < 3 → (w.cell? ⟨g, o + j, none⟩).isSome = true) (hf : ∀ j, j < 3 → w.frozen? ⟨g, o + j, none⟩ = false) :
  (Builtin.clear_ #[31] ty #[.slice (some ⟨g, o, none⟩) 1 c]).run Tryz.prog w = .ok (.tuple #[]) (w.setCells g o [.int .u64 0, .string ⟨#[]⟩, .bool false]) := by
 have hzc : (Builtin.zeroCells (Value.agg #[.int .u64 0, .string ⟨#[]⟩, .bool false]).cells 1).toList = [.int .u64 0, .string ⟨#[]⟩, .bool false] := by kernel_rfl
 have hst := run_storeCells_cells (P := Tryz.prog) g o [.int .u64 0, .string ⟨#[]⟩, .bool false] 0 w (by simpa using hc) (by simpa using hf) (by intro v hv'; simp at hv'; rcases hv' with rfl | rfl | rfl <;> rfl)
 simp only [Nat.add_zero] at hst
 simp [Builtin.clear_, run_underlying Tryz.underlying31, qdM, hzc, hst]
set_option maxHeartbeats 8000000 in
theorem AO (w : World) (base : Nat) (l : List S41) (g c : Nat) (i m : Nat) (hl : l.length = i + m + 1) (hn : l.length ≤ 1024) (ho : Kd.R k41 41 w base (fun _ => True) (.slice (some ⟨g, 0, none⟩) l.length c) l) :
  Calls Tryz.prog 62 #[.slice (some ⟨g, 0, none⟩) (i + m + 1) c, .int .i64 (i : Int), .int .i64 ((i : Int) + 1)] w fun e w4 => e = .returned (.slice (some ⟨g, 0, none⟩) (i + m) c) ∧
   Kd.R k41 41 w4 base (fun _ => True) (.slice (some ⟨g, 0, none⟩) (i + m) c) (l.take i ++ l.drop (i + 1)) ∧ Below base w w4 ∧ ∀ k, k ≠ g → w4.heap[k]? = w.heap[k]? := by
 obtain ⟨g', cur, e, _, hg, hh, h3, h4, h5, h6⟩ := lT ho (by omega)
 injection e with e
 injection e with e
 subst e
 obtain ⟨i0, hi0, hz0, hz1, hz2⟩ := OY
 have hic : i + m + 1 ≤ c := by omega
 have him : i + m + 1 ≤ 1024 := by omega
 have hi7 : i ≤ c := by omega
 have hcm : c ≤ 9223372036854775807 := by unfold maxLen at h4; omega
 have hne : ((i : Int) == (i : Int) + 1) = false := by simp; omega
 have HL := aC.mk hl
 have HI0 := aC.mk hi0
 have HZ1 := aC.mk hz1
 have HH := aC.mk hh
 have H6 := aC.mk h6
 have HG := aC.mk hg
 have H5 := aC.mk h5
 have hnews : aC ((cellsOf (l.drop (i + 1))).length = m * 3) := ⟨by rw [cellsOf_length, List.length_drop]; omega⟩
 have hspare : aC (∀ j, j < (cellsOf (l.drop (i + 1))).length → (w.drew.cell? ⟨g, 0 + i * 3 + j, none⟩).isSome = true ∧ w.drew.frozen? ⟨g, 0 + i * 3 + j, none⟩ = false) := ⟨fun j hj => by
  rw [hnews.out] at hj
  refine ⟨?_, aG (bQ hh) _⟩
  rw [aH (bQ hh), Array.getElem?_eq_getElem (by omega)]
  rfl⟩
 have hcell : aC (∀ j u, (cellsOf (l.drop (i + 1)))[j]? = some u → w.drew.cell? ⟨g, (i + 1) * 3 + j, none⟩ = some u) := ⟨fun j u hu => by
  rw [kL, List.getElem?_drop] at hu
  exact kG (bQ hh) h6 hu⟩
 clear hl hi0 hz0 hz1 hz2 hh h6 hg h5 h4 h3 ho hn
 have hend : ∀ W : World, W = (w.drew.setCells g (0 + i * 3) (cellsOf (l.drop (i + 1)))) → aC ((∀ j, j < 3 → (W.cell? ⟨g, (i + m) * 3 + j, none⟩).isSome = true) ∧ (∀ j, j < 3 → W.frozen? ⟨g, (i + m) * 3 + j, none⟩ = false) ∧
   Kd.R k41 41 (W.setCells g ((i + m) * 3) [.int .u64 0, .string ⟨#[]⟩, .bool false]) base (fun _ => True) (.slice (some ⟨g, 0, none⟩) (i + m) c) (l.take i ++ l.drop (i + 1)) ∧ Below base w (W.setCells g ((i + m) * 3) [.int .u64 0, .string ⟨#[]⟩, .bool false]) ∧
   ∀ k, k ≠ g → (W.setCells g ((i + m) * 3) [.int .u64 0, .string ⟨#[]⟩, .bool false]).heap[k]? = w.heap[k]?) := by
  rintro W rfl
  obtain ⟨qdv, hc1, hs1, hl1⟩ := kH g 41 (cellsOf (l.drop (i + 1))) (0 + i * 3) w.drew cur (bQ HH.out)
  obtain ⟨qdw, hc2, hs2, hl2⟩ := kH g 41 [.int .u64 0, .string ⟨#[]⟩, .bool false] ((i + m) * 3) _ qdv hc1
  have hsz : cur.size = c * 3 := H5.out
  have hct : cur.toList.length = c * 3 := by simpa using hsz
  refine ⟨fun j hj => ?_, fun j hj => aG hc1 _, ?_, ?_, fun k hk => ?_⟩
  ·rw [aH hc1, Array.getElem?_eq_getElem (by omega)]
   rfl
  ·have hlen : (l.take i ++ l.drop (i + 1)).length = i + m := by rw [List.length_append, List.length_take, List.length_drop, HL.out]; omega
   refine l9 ⟨by rw [cellsOf_length], .inr ⟨g, c, qdw, by rw [hlen], HG.out, hc2, by omega, ?_, by omega, ?_⟩⟩
   ·unfold maxLen; omega
   ·rw [hl2, hl1, hlen, vJ _ _ _ (by
     rw [vJ _ _ _ (by rw [hnews.out, hct]; omega)]
     simp [hct, hnews.out]; omega)]
    rw [vJ _ _ _ (by rw [hnews.out, hct]; omega), o7, jR, hnews.out, Nat.zero_add]
    have h6 := H6.out
    have e1 : cur.toList.take (i * 3) = (cellsOf l).take (i * 3) := by rw [← h6, List.take_take]; congr 1; rw [HL.out]; omega
    have e2 : (cur.toList.take (i * 3) ++ cellsOf (l.drop (i + 1))).length = (i + m) * 3 := by rw [List.length_append, List.length_take, hnews.out, hct]; omega
    rw [List.append_assoc, List.take_append_of_le_length (by rw [List.length_take, List.length_append, List.length_append, List.length_take, hnews.out, hct, List.length_drop, hct]; omega)]
    rw [List.take_take, Nat.min_self, List.take_append_of_le_length (by omega), ← e2, List.take_length, e1]
  ·exact lH HG.out _ _ _ (lH HG.out _ _ _ (gI (Below.refl base w)))
  ·rw [lG g k hk, lG g k hk]
   rfl
 have AP := aC.mk hend
 clear hend
 have NC : ∀ (ty c' : Nat) (W : World), W = (w.drew.setCells g (0 + i * 3) (cellsOf (l.drop (i + 1)))) → (Builtin.clear_ #[31] ty #[.slice (some ⟨g, (i + m) * 3, none⟩) 1 c']).run Tryz.prog W = .ok (.tuple #[]) (W.setCells g ((i + m) * 3) [.int .u64 0, .string ⟨#[]⟩, .bool false]) := fun ty c' W hW =>
  RG W ty g ((i + m) * 3) c' ((AP.out W hW).out.1) ((AP.out W hW).out.2.1)
 have IZ := aC.mk NC
 clear NC
 by_cases hci : c = i + 1
 ·have hm0 : m = 0 := by omega
  subst hm0
  subst hci
  simp only [Nat.add_zero] at AP IZ HL hic him ⊢
  have z1 : (i : Int) ≤ (i : Int) + 1 := by omega
  have z2 : (0 : Int) ≤ (i : Int) + 1 := by omega
  go_enter Tryz.func62, Tryz.ntmps62
  go_wp2
  refine fO (n := 8) (S := fun w' => True) (ds := []) #[false, false, false, false, false, false, false, false] (by kernel_rfl) rfl rfl trivial (fun hHeld => ?_)
  refine puS (i := 0) (N := some 20) (v := ?_) (a' := ?_) rfl rfl (by kernel_rfl) (fun _ _ _ h => h) (Or.inl ⟨by rfl, ?_⟩) ?_ ?_
  rotate_left
  ·intro w'
   go_simp
   with_reducible rfl
  rotate_left
  ·simp only [Act.put, zA, zZ, zS, aI, aJ]
   rfl
  refine puS (i := 1) (N := some 21) (v := ?_) (a' := ?_) rfl rfl (by kernel_rfl) (fun _ _ _ h => h) (Or.inl ⟨by rfl, ?_⟩) ?_ ?_
  rotate_left
  ·intro w'
   go_simp
   with_reducible rfl
  rotate_left
  ·simp only [Act.put, zA, zZ, zS, aI, aJ]
   rfl
  refine puS (i := 2) (N := some 22) (v := ?_) (a' := ?_) rfl rfl (by kernel_rfl) (fun _ _ _ h => h) (Or.inl ⟨by rfl, ?_⟩) ?_ ?_
  rotate_left
  ·intro w'
   go_simp
   with_reducible rfl
  rotate_left
  ·simp only [Act.put, zA, zZ, zS, aI, aJ]
   rfl
  refine puS (i := 3) (N := some 23) (v := ?_) (a' := ?_) rfl rfl (by kernel_rfl) (fun _ _ _ h => h) (Or.inl ⟨by rfl, ?_⟩) ?_ ?_
  rotate_left
  ·intro w'
   go_simp
   with_reducible rfl
  rotate_left
  ·simp only [Act.put, zA, zZ, zS, aI, aJ]
   rfl
  refine puS (i := 4) (N := some 24) (v := ?_) (a' := ?_) rfl rfl (by kernel_rfl) (fun _ _ _ h => h) (Or.inl ⟨by rfl, ?_⟩) ?_ ?_
  rotate_left
  ·intro w'
   go_simp
   with_reducible rfl
  rotate_left
  ·simp only [Act.put, zA, zZ, zS, aI, aJ]
   rfl
  refine puS (i := 5) (N := some 25) (v := ?_) (a' := ?_) rfl rfl (by kernel_rfl) (fun _ _ _ h => h) (Or.inl ⟨by rfl, ?_⟩) ?_ ?_
  rotate_left
  ·intro w'
   go_simp
   with_reducible rfl
  rotate_left
  ·simp only [Act.put, zA, zZ, zS, aI, aJ]
   rfl
  refine onS (i := 6) (N := some 26) rfl rfl (by kernel_rfl) (by decide) (fun K hK => ?_)
  refine step_append_room rfl (.tmp 22) (.tmp 25) 31 rfl 41 i0 3 Tryz.underlying31 HI0.out HZ1.out g 0 i (i + 1) rfl ⟨g, 0, none⟩ 0 0 (cellsOf (l.drop (i + 1))) rfl hnews.out ?ncz (qK _) (by omega) hspare.out ?_
  case ncz => intro j u hu; exact absurd (List.getElem?_eq_some_iff.1 hu).1 (by rw [hnews.out]; omega)
  refine hK.out _ _ trivial (fun hHeld => ?_)
  clear hK K
  refine fE (a' := ?_) ?_ ?_
  rotate_left
  ·show Act.put _ (some 26) _ = _
   simp only [Act.put, zA, zZ, zS, aI, aJ]
   rfl
  refine puS (i := 7) (N := some 0) (v := ?_) (a' := ?_) rfl rfl (by kernel_rfl) (fun _ _ _ h => h) (Or.inl ⟨by rfl, ?_⟩) ?_ ?_
  rotate_left
  ·intro w'
   go_simp
   with_reducible rfl
  rotate_left
  ·simp only [Act.put, zA, zZ, zS, aI, aJ]
   rfl
  refine iT (by kernel_rfl) ?_
  obtain ⟨W, hW⟩ : ∃ W, W = (w.drew.setCells g (0 + i * 3) (cellsOf (l.drop (i + 1)))) := ⟨_, rfl⟩
  rw [← hW]
  have NC := fun ty c' => IZ.out ty c' W hW
  have HW := AP.out W hW
  clear hW AP IZ hHeld
  go_wp2
  go_ret
  exact ⟨rfl, HW.out.2.2.1, HW.out.2.2.2.1, HW.out.2.2.2.2⟩
 ·have z2 : (0 : Int) ≤ (i : Int) + 1 := by omega
  have z3 : (i : Int) + 1 ≤ (i : Int) + (m : Int) + 1 := by omega
  have z4 : i + 1 ≤ c := by omega
  have z5 : (i : Int) + 1 ≤ (c : Int) := by omega
  go_enter Tryz.func62, Tryz.ntmps62
  go_wp2
  refine fO (n := 8) (S := fun w' => True) (ds := []) #[false, false, false, false, false, false, false, false] (by kernel_rfl) rfl rfl trivial (fun hHeld => ?_)
  refine puS (i := 0) (N := some 20) (v := ?_) (a' := ?_) rfl rfl (by kernel_rfl) (fun _ _ _ h => h) (Or.inl ⟨by rfl, ?_⟩) ?_ ?_
  rotate_left
  ·intro w'
   go_simp
   with_reducible rfl
  rotate_left
  ·simp only [Act.put, zA, zZ, zS, aI, aJ]
   rfl
  refine puS (i := 1) (N := some 21) (v := ?_) (a' := ?_) rfl rfl (by kernel_rfl) (fun _ _ _ h => h) (Or.inl ⟨by rfl, ?_⟩) ?_ ?_
  rotate_left
  ·intro w'
   go_simp
   with_reducible rfl
  rotate_left
  ·simp only [Act.put, zA, zZ, zS, aI, aJ]
   rfl
  refine puS (i := 2) (N := some 22) (v := ?_) (a' := ?_) rfl rfl (by kernel_rfl) (fun _ _ _ h => h) (Or.inl ⟨by rfl, ?_⟩) ?_ ?_
  rotate_left
  ·intro w'
   go_simp
   with_reducible rfl
  rotate_left
  ·simp only [Act.put, zA, zZ, zS, aI, aJ]
   rfl
  refine puS (i := 3) (N := some 23) (v := ?_) (a' := ?_) rfl rfl (by kernel_rfl) (fun _ _ _ h => h) (Or.inl ⟨by rfl, ?_⟩) ?_ ?_
  rotate_left
  ·intro w'
   go_simp
   with_reducible rfl
  rotate_left
  ·simp only [Act.put, zA, zZ, zS, aI, aJ]
   rfl
  refine puS (i := 4) (N := some 24) (v := ?_) (a' := ?_) rfl rfl (by kernel_rfl) (fun _ _ _ h => h) (Or.inl ⟨by rfl, ?_⟩) ?_ ?_
  rotate_left
  ·intro w'
   go_simp
   with_reducible rfl
  rotate_left
  ·simp only [Act.put, zA, zZ, zS, aI, aJ]
   rfl
  refine puS (i := 5) (N := some 25) (v := ?_) (a' := ?_) rfl rfl (by kernel_rfl) (fun _ _ _ h => h) (Or.inl ⟨by rfl, ?_⟩) ?_ ?_
  rotate_left
  ·intro w'
   go_simp
   with_reducible rfl
  rotate_left
  ·simp only [Act.put, zA, zZ, zS, aI, aJ]
   rfl
  refine onS (i := 6) (N := some 26) rfl rfl (by kernel_rfl) (by decide) (fun K hK => ?_)
  refine step_append_room rfl (.tmp 22) (.tmp 25) 31 rfl 41 i0 3 Tryz.underlying31 HI0.out HZ1.out g 0 i c rfl ⟨g, (i + 1) * 3, none⟩ m (c - (i + 1)) (cellsOf (l.drop (i + 1))) rfl hnews.out ?ncg (qK _) (by omega) hspare.out ?_
  case ncg => intro j u hu; rw [add_plain']; exact hcell.out j u hu
  refine hK.out _ _ trivial (fun hHeld => ?_)
  clear hK K
  refine fE (a' := ?_) ?_ ?_
  rotate_left
  ·show Act.put _ (some 26) _ = _
   simp only [Act.put, zA, zZ, zS, aI, aJ]
   rfl
  refine puS (i := 7) (N := some 0) (v := ?_) (a' := ?_) rfl rfl (by kernel_rfl) (fun _ _ _ h => h) (Or.inl ⟨by rfl, ?_⟩) ?_ ?_
  rotate_left
  ·intro w'
   go_simp
   with_reducible rfl
  rotate_left
  ·simp only [Act.put, zA, zZ, zS, aI, aJ]
   rfl
  refine iT (by kernel_rfl) ?_
  obtain ⟨W, hW⟩ : ∃ W, W = (w.drew.setCells g (0 + i * 3) (cellsOf (l.drop (i + 1)))) := ⟨_, rfl⟩
  rw [← hW]
  have NC := fun ty c' => IZ.out ty c' W hW
  have HW := AP.out W hW
  clear hW AP IZ hHeld
  go_wp2
  go_ret
  exact ⟨rfl, HW.out.2.2.1, HW.out.2.2.2.1, HW.out.2.2.2.2⟩
theorem kU {b W : World} {pre post : List Res} {g c j n : Nat} {l l' : List S41} {u : Value} (hn : n = l.length) (H : Sep b W (pre ++ row k41 41 (.slice (some ⟨g, 0, none⟩) n c) l :: post)) (hl : l'.length = l.length) (he : (cellsOf l).set j u = cellsOf l') (hj : j < l.length * 3) :
  Sep b (W.setCell ⟨g, j, none⟩ u) (pre ++ row k41 41 (.slice (some ⟨g, 0, none⟩) n c) l' :: post) := by
 subst hn
 refine H.upd (r' := row k41 41 (.slice (some ⟨g, 0, none⟩) l.length c) l') ((Upd.setCell W ⟨g, j, none⟩ u).mono fun k hk => ?_) ?_ (fun k hk => .inl hk)
 ·show (Value.slice (some ⟨g, 0, none⟩) l.length c).ownBlock = some k
  rw [hk]
  rfl
 ·have hr : Kd.R k41 41 W 0 (fun k => (Value.slice (some ⟨g, 0, none⟩) l.length c).ownBlock = some k) (.slice (some ⟨g, 0, none⟩) l.length c) l := H.all (rG (some ⟨g, 0, none⟩) c l) (by simp)
  have h2 := G9 (Kd.tJ hr (fun _ _ => trivial)) hl he hj
  rw [hl] at h2
  exact Kd.IQ xE h2 (fun k hk _ => hk)
theorem rQ {b w : World} {rs : List Res} {g c i : Nat} {l : List S41} (hi : i < l.length) (hn : l.length ≤ 1024) (H : aC (Sep b w (rG (some ⟨g, 0, none⟩) c l :: rs))) :
  Calls Tryz.prog 62 #[.slice (some ⟨g, 0, none⟩) l.length c, .int .i64 (i : Int), .int .i64 ((i : Int) + 1)] w fun e w' => e = .returned (.slice (some ⟨g, 0, none⟩) (l.eraseIdx i).length c) ∧ aC (Sep b w' (rG (some ⟨g, 0, none⟩) c (l.eraseIdx i) :: rs)) := by
 have hr : Kd.R k41 41 w 0 (fun k => (Value.slice (some ⟨g, 0, none⟩) l.length c).ownBlock = some k) (.slice (some ⟨g, 0, none⟩) l.length c) l := H.out.all (rG (some ⟨g, 0, none⟩) c l) (by simp)
 obtain ⟨m, hm⟩ : ∃ m, l.length = i + m + 1 := ⟨l.length - i - 1, by omega⟩
 have he : l.eraseIdx i = l.take i ++ l.drop (i + 1) := List.eraseIdx_eq_take_drop_succ l i
 have hlen : (l.take i ++ l.drop (i + 1)).length = i + m := by rw [List.length_append, List.length_take, List.length_drop]; omega
 have h := AO w 0 l g c i m hm hn (Kd.tJ hr (fun _ _ => trivial))
 rw [← hm] at h
 refine h.mono ?_
 rintro e w4 ⟨rfl, h1, h2, h3⟩
 rw [he]
 refine ⟨by rw [hlen], ⟨H.out.qbQ (r' := rG (some ⟨g, 0, none⟩) c (l.take i ++ l.drop (i + 1))) ⟨h2.os, h2.tape, h2.output, h2.size, fun k hk hne => h3 k fun e => hne ?_⟩ ?_ (fun k hk => .inl hk)⟩⟩
 ·show (Value.slice (some ⟨g, 0, none⟩) l.length c).ownBlock = some k
  rw [e]
  rfl
 ·have h5 := Kd.IQ xE h1 (ok' := fun k => (Value.slice (some ⟨g, 0, none⟩) (l.take i ++ l.drop (i + 1)).length c).ownBlock = some k) (fun k hk _ => by rw [hlen]; exact hk)
  rw [← hlen] at h5
  exact h5
end Go.Proofs.UE
namespace Go.Proofs.Sp
open Go.RowKit Go.Proofs.aA.aK Go.Proofs.aA.aW Go.Proofs.aA.aX
section
variable {P : Program} {ops : Array Oper} {oi : Oper} {a : Act} {Q : Exit → Act → World → Prop} {K : Act → World → Prop} {b W : World} {rs : List Res}
theorem RH {N : Option Tmp} (hw : Region.wanted oi (yielded ops a.tmps) = true) (hN : oi.dst = N) (H : Sep b W rs) (cs : List Value) (e : TypeId) (n : Nat)
  (hrun : (execOp a.eval oi).run P W = .ok (.value (.slice (some ⟨W.heap.size, 0, none⟩) n n)) (W.alloc (.cells cs.toArray e (0, 0))))
  (h : ∀ g W', Sep b W' (box g cs e :: rs) → K (a.put N (.slice (some ⟨g, 0, none⟩) n n)) W') : if Region.wanted oi (yielded ops a.tmps) = true then Oper.wp P oi a W K Q else K (a.put N undef) W :=
 IJ hw hN hrun (h _ _ (H.alloc cs e))
theorem IC {N : Option Tmp} (hw : Region.wanted oi (yielded ops a.tmps) = true) (hN : oi.dst = N) (H : Sep b W rs) (cs : List Value) (e : TypeId)
  (hrun : (execOp a.eval oi).run P W = .ok (.value (.pointer (some ⟨W.heap.size, 0, none⟩))) (W.alloc (.cells cs.toArray e (0, 0))))
  (h : ∀ g W', Sep b W' (box g cs e :: rs) → K (a.put N (.pointer (some ⟨g, 0, none⟩))) W') : if Region.wanted oi (yielded ops a.tmps) = true then Oper.wp P oi a W K Q else K (a.put N undef) W :=
 IJ hw hN hrun (h _ _ (H.alloc cs e))
theorem yR {α : Type} (d : Kd α) (hd : Flat d) (hw : Region.wanted oi (yielded ops a.tmps) = true) (s x : Operand) (t e : TypeId) (z : Value) (bytes : Nat)
  (ho : oi.op = .call { callee := .builtin .append, args := #[s, x], argTypes := #[t, t] })
  (ht : P.underlying t = some (.slice e)) (hinfo : (P.info? e).map (fun i => (i.zero, i.size, i.bytes)) = some (some z, d.sz, bytes)) (hz : z.cells.size = d.sz) (hs0 : 0 < d.sz) (hb0 : 0 < bytes)
  (v : Value) (xs ys : List α) (A : Option Addr) (c : Nat) (hs : a.eval s = v) (hx : a.eval x = .slice A ys.length c)
  (HR : d.C W A ys.length ys) (hKM : ∀ x cs, d.K W x cs → d.M W 0 (fun _ => False) x cs) (H : Sep b W (row d e v xs :: rs)) (hl : (xs.length + ys.length) * bytes ≤ 140737488355328)
  (h : ∀ A1 c1 W', Sep b W' (row d e (.slice A1 (xs ++ ys).length c1) (xs ++ ys) :: rs) → K (a.put oi.dst (.slice A1 (xs ++ ys).length c1)) W') :
  if Region.wanted oi (yielded ops a.tmps) = true then Oper.wp P oi a W K Q else K (a.put oi.dst undef) W := by
 have hr : d.R e W 0 (fun k => v.ownBlock = some k) v xs := H.all (row d e v xs) (by simp)
 refine Kd.kJ d (w0 := W) 0 hw s x t e z bytes ho ht hinfo hz hs0 hb0 v xs ys A ys.length c (fun k => v.ownBlock = some k ∨ W.heap.size ≤ k) (fun _ => False) hs hx
  (Kd.tJ hr (fun k hk => .inl hk)) HR hKM (fun _ hk => hk.elim) (fun k hk => .inr hk) (Below.refl _ _) (Nat.zero_le _) hl ?_
 intro v1 w1 ho1 _ hg hat
 obtain ⟨A1, c1, rfl⟩ := Kd.dZ ho1
 refine h A1 c1 w1 (H.qbQ (r' := row d e (.slice A1 (xs ++ ys).length c1) (xs ++ ys)) (Upd.wC hg) (Kd.IQ hd ho1 (fun k hk _ => hk)) (fun k hk => ?_))
 have hk' : (Value.slice A1 (xs ++ ys).length c1).ownBlock = some k := hk
 rcases hat with e1 | ⟨b1, e1, hb1⟩
 ·exact .inl (show v.ownBlock = some k by rw [← e1]; exact hk')
 ·rw [e1] at hk'
  injection hk' with hk'
  exact .inr (by omega)
theorem qcv {rest : List Oper} (hgd : oi.guard = none) (H : aC (Sep b W rs)) (cs : List Value) (e : TypeId) (n : Nat)
  (hrun : (execOp a.eval oi).run P W = .ok (.value (.slice (some ⟨W.heap.size, 0, none⟩) n n)) (W.alloc (.cells cs.toArray e (0, 0))))
  (h : ∀ g W', aC (Sep b W' (box g cs e :: rs)) → wpList P ops Q rest (a.put oi.dst (.slice (some ⟨g, 0, none⟩) n n)) W') : wpList P ops Q (oi :: rest) a W :=
 Kd.uF hgd hrun (h _ _ ⟨H.out.alloc cs e⟩)
theorem qcw {α : Type} {d : Kd α} {e : TypeId} {g : Nat} {cs : List Value} {l : List α} (hr : fF (d.M W 0 (fun k => (k = g) ∧ some k ≠ (Value.slice (some ⟨g, 0, none⟩) l.length l.length).ownBlock)) d.sz l cs) (hlen : l.length ≤ 1000000) (H : Sep b W (box g cs e :: rs)) : Sep b W (row d e (.slice (some ⟨g, 0, none⟩) l.length l.length) l :: rs) := by
 have hb : W.heap[g]? = some (.cells cs.toArray e (0, 0)) := H.jF (g := g) aP
 refine H.qbQ (r' := row d e (.slice (some ⟨g, 0, none⟩) l.length l.length) l) (Upd.refl _ _) ?_ (fun k hk => .inl ?_)
 ·refine ⟨fun k hk => hk, cs, ⟨hr.1, .inr ⟨g, l.length, cs.toArray, rfl, Nat.zero_le _, hb, Nat.le_refl _, by unfold maxLen; omega, by simpa using hr.1, ?_⟩⟩, hr.uD (fun p c hp => d.iV (fun k hk => ⟨by rw [hk.1]; rfl, hk.2⟩) hp)⟩
  rw [← hr.1]
  simp
 ·have : some g = some k := hk
  injection this with this
  exact this.symm
end
end Go.Proofs.Sp
namespace Go.Proofs.U
open Go.Proofs.UE (kU rQ)
open Go.RowKit Go.Proofs.aA.aK Go.Proofs.aA.aW Go.Proofs.aA.aX Go.Proofs.Sp Go.Proofs.gB
def sK (p : S41 → Bool) : List S41 → Option Nat
 | [] => none
 | x :: r => if p x = true then some 0 else (sK p r).map (· + 1)
def EH (p : S41 → Bool) (l : List S41) : Int := match sK p l with | some i => (i : Int) | none => -1
theorem xG {p : S41 → Bool} : ∀ {l : List S41} {i : Nat}, sK p l = some i → ∃ x, l[i]? = some x ∧ p x = true ∧ ∀ j y, j < i → l[j]? = some y → p y = false
 | [], i, h => by cases h
 | x :: r, i, h => by
  rw [sK] at h
  split at h
  ·rename_i hp
   injection h with h
   subst h
   exact ⟨x, rfl, hp, fun j y hj => by omega⟩
  ·rename_i hp
   cases hr : sK p r with
   | none => rw [hr] at h; cases h
   | some k =>
    rw [hr] at h
    have h : k + 1 = i := by simpa using h
    subst h
    obtain ⟨y, h1, h2, h3⟩ := xG hr
    refine ⟨y, h1, h2, fun j z hj hz => ?_⟩
    cases j with
    | zero =>
     have : x = z := by simpa using hz
     rw [← this]
     simpa using hp
    | succ j => exact h3 j z (by omega) (by simpa using hz)
theorem OZ {p : S41 → Bool} {l : List S41} {i : Nat} (h : sK p l = some i) : i < l.length := by
 obtain ⟨x, hx, _⟩ := xG h
 exact (List.getElem?_eq_some_iff.1 hx).1
theorem qhz {w : World} {ad : Addr} {n i : Nat} {l : List S41} {x : S41} (h : Kd.C k41 w (some ad) n l) (hx : l[i]? = some x) :
  w.cell? (ad.add (i * 3)) = some (.int .u64 x.f0) ∧ w.cell? ⟨(ad.add (i * 3)).block, (ad.add (i * 3)).off + 1, none⟩ = some (.string x.f1) ∧ w.cell? ⟨(ad.add (i * 3)).block, (ad.add (i * 3)).off + 2, none⟩ = some (.bool x.f2) := by
 have hi := (List.getElem?_eq_some_iff.1 hx).1
 obtain ⟨ad2, c, e, _, hK, hc0⟩ := Kd.yL h z41 (i : Int) (by omega) (by have := h.1; omega)
 injection e with e
 subst e
 have hg : l.getD i z41 = x := by simp [List.getD, hx]
 simp only [Int.toNat_natCast] at hK hc0
 rw [hg] at hK
 have hc : ∀ j u, c[j]? = some u → w.cell? (ad.add (i * 3 + j)) = some u := hc0
 obtain rfl := CO hK
 exact ⟨hc 0 _ rfl, by rw [← kT _ _ 1 (by omega)]; exact hc 1 _ rfl, by rw [← kT _ _ 2 (by omega)]; exact hc 2 _ rfl⟩
theorem qew {w : World} {A : Option Addr} {n : Nat} {l : List S41} (h : Kd.C k41 w A n l) (hn : 0 < n) : ∃ ad, A = some ad := by
 obtain ⟨ad2, c, e, _⟩ := Kd.yL h z41 0 (by omega) (by omega)
 exact ⟨ad2, e⟩
set_option maxHeartbeats 4000000 in
theorem LQ (p : S41 → Bool) (fdo : Nat) (lb : List Value) (B : Option Addr) (d : Nat) (es : List S41) (w : World) (hre : Kd.C k41 w B es.length es) (he : ∀ args w, (callFunc fdo args).run Tryz.prog w = .ok (.enter fdo args) w)
  (hp : ∀ (x : S41) (w' : World), Below w.heap.size w w' → Calls Tryz.prog fdo (.agg #[.int .u64 x.f0, .string x.f1, .bool x.f2] :: lb).toArray w' fun e w'' => e = .returned (.bool (p x)) ∧ Below w'.heap.size w' w'') :
  Calls Tryz.prog 57 #[.slice B es.length d, .func (.func fdo) #[] lb.toArray] w fun e w' => e = .returned (.int .i64 (EH p es)) ∧ Below w.heap.size w w' := by
 have HRe := aC.mk hre
 have HP := aC.mk hp
 have HL : aC (es.length ≤ 9223372036854775807) := ⟨Kd.VO hre⟩
 clear hre hp
 have HB := aC.mk (Below.refl w.heap.size w)
 go_enter Tryz.func57, Tryz.ntmps57
 go_wp2
 go_loopw [4, 5, 8] (fun v4 v5 v8 wr => ∃ i : Nat, v8 = .int .i64 (i : Int) ∧ i ≤ es.length ∧ aC (sK p es = (sK p (es.drop i)).map (· + i)) ∧ aC (Below w.heap.size w wr)) (fun _ _ v8 _ => es.length - (intOf v8).toNat)
 case atStart => exact ⟨0, rfl, Nat.zero_le _, ⟨by simp⟩, HB⟩
 case round =>
  clear HB
  obtain ⟨i, rfl, hi, HI, HB⟩ := hrel
  by_cases hil : i < es.length
  ·obtain ⟨x, hx⟩ : ∃ x, es[i]? = some x := ⟨_, List.getElem?_eq_getElem hil⟩
   have hd : es.drop i = x :: es.drop (i + 1) := by
    rw [List.drop_eq_getElem_cons hil]
    congr 1
    rw [List.getElem?_eq_getElem hil] at hx
    exact Option.some.inj hx
   have HD := aC.mk hd
   obtain ⟨ad, e1⟩ := qew HRe.out (by omega)
   subst e1
   obtain ⟨q0, q1, q2⟩ := qhz (Kd.fK HRe.out HB.out) hx
   have hi0 : (0 : Int) ≤ (i : Int) := by omega
   have hi1 : (i : Int) < (es.length : Int) := by omega
   have hw3 : wrap64 ((i : Int) + 1) = ((i + 1 : Nat) : Int) := by
    have := HL.out
    unfold wrap64
    omega
   clear hd hx
   go_wp2_with fail
   refine ((HP.out x _ HB.out).mono ?_)
   rintro e w5 ⟨rfl, hb⟩
   have n0_ := aC.mk (bF HB.out hb)
   clear HB q0 q1 q2 hb
   have HB := n0_
   clear n0_
   cases hpx : p x
   ·go_wp2_with fail
    try rw [hw3]
    refine ⟨⟨i + 1, rfl, by omega, ⟨?_⟩, HB⟩, by simp [intOf]; omega⟩
    rw [HI.out, HD.out, sK, if_neg (by rw [hpx]; simp), Option.map_map]
    congr 1
    funext k
    show k + 1 + i = k + (i + 1)
    omega
   ·have hres : EH p es = (i : Int) := by
     rw [EH, HI.out, HD.out, sK, if_pos hpx]
     simp
    go_wp2_with fail
    go_ret
    exact ⟨by first | rfl | (rw [hres]; rfl), HB.out⟩
  ·have hie : i = es.length := by omega
   subst hie
   have hres : EH p es = -1 := by
    rw [EH, HI.out, List.drop_length]
    rfl
   have hin : ¬ (es.length : Int) < (es.length : Int) := by omega
   go_wp2_with fail
   go_ret
   exact ⟨by first | rfl | (rw [hres]; rfl), HB.out⟩
set_option maxHeartbeats 4000000 in
theorem qdN (x : S41) (w : World) : Calls Tryz.prog 58 #[.agg #[.int .u64 x.f0, .string x.f1, .bool x.f2]] w fun e w' => e = .returned (.bool (!x.f2)) ∧ Below w.heap.size w w' := by
 have H := aC.mk (Sep.start w)
 go_enter Tryz.func58, Tryz.ntmps58
 go_wp2_with (first
 |((with_reducible refine aU (N := 1) rfl ?_);
   refine bK rfl H (cs := [.int .u64 x.f0, .string x.f1, .bool x.f2]) (t := 41) ?hr ?_;
   (case hr => first | (go_simp; done) | (go_simp; rfl));
   intro gx wd1 n_;
   simp only [Act.put, zA, zZ, zS];
   clear H;
   have H := n_;
   clear n_;
   have c_x := H.out.cell (g := gx) aP)
 |fail)
 go_ret
 exact ⟨rfl, H.out.below⟩
set_option maxHeartbeats 4000000 in
theorem qcx (x : S41) (g1 : Nat) (q : Int) (w : World) (hb : w.heap[g1]? = some (.cells #[.int .u64 q] 28 (0, 0))) : Calls Tryz.prog 102 #[.agg #[.int .u64 x.f0, .string x.f1, .bool x.f2], .pointer (some ⟨g1, 0, none⟩)] w fun e w' => e = .returned (.bool (x.f0 == q && x.f2)) ∧ Below w.heap.size w w' := by
 have HQ := aC.mk hb
 clear hb
 have H := aC.mk (Sep.start w)
 go_enter Tryz.func102, Tryz.ntmps102
 by_cases hq : x.f0 = q
 ·
  have hqb : (x.f0 == q) = true := by simpa using hq
  clear hq
  go_wp2_with (first
 |((with_reducible refine aU (N := 2) rfl ?_);
   refine bK rfl H (cs := [.int .u64 x.f0, .string x.f1, .bool x.f2]) (t := 41) ?hr ?_;
   (case hr => first | (go_simp; done) | (go_simp; rfl));
   intro gx wd2 n_;
   simp only [Act.put, zA, zZ, zS];
   clear H;
   have H := n_;
   clear n_;
   have c_x := H.out.cell (g := gx) aP;
   have c_q := aH (bG HQ.out H.out.below) 0)
 |fail)
  go_ret
  refine ⟨?_, H.out.below⟩
  simp [hqb]
 ·
  have hqb : (x.f0 == q) = false := by simpa using hq
  clear hq
  go_wp2_with (first
 |((with_reducible refine aU (N := 2) rfl ?_);
   refine bK rfl H (cs := [.int .u64 x.f0, .string x.f1, .bool x.f2]) (t := 41) ?hr ?_;
   (case hr => first | (go_simp; done) | (go_simp; rfl));
   intro gx wd3 n_;
   simp only [Act.put, zA, zZ, zS];
   clear H;
   have H := n_;
   clear n_;
   have c_x := H.out.cell (g := gx) aP;
   have c_q := aH (bG HQ.out H.out.below) 0)
 |fail)
  go_ret
  refine ⟨?_, H.out.below⟩
  simp [hqb]
def lM (q : Int) (x : S41) : Bool := x.f0 == q && x.f2
def UQ (o : Option Nat) (e : Ending) : Prop := (∃ i : Nat, o = some i ∧ e = .returned (.int .i64 (i : Int))) ∨ (o = none ∧ e = .panicked [{ v := .iface 34 (.int .i64 19), recovered := false }])
set_option maxHeartbeats 4000000 in
theorem AY {b w : World} {rs : List Res} (gl : Nat) (A : Option Addr) (c : Nat) (B : Option Addr) (d : Nat) (Q : Qu) (q : Int) (H0 : aC (Sep b w (box gl (qc A c B d Q) 101 :: lV A c Q.L.l :: rG B d Q.es :: rs))) :
  Calls Tryz.prog 60 #[.pointer (some ⟨gl, 0, none⟩), .int .u64 q] w fun e w' => UQ (sK (lM q) Q.es) e ∧ aC (Sep b w' (box gl (qc A c B d Q) 101 :: lV A c Q.L.l :: rG B d Q.es :: rs)) := by
 have H : aC (Sep b w (box gl [.slice A Q.L.l.length c, .bool Q.L.dn, .int .i64 Q.L.fu, .int .i64 Q.L.fa, .int .i64 Q.L.size, .int .u64 Q.L.fr, .int .u64 Q.L.nx, .bool Q.L.br, .slice B Q.es.length d, .int .i64 Q.most] 101 :: row k67 67 (.slice A (Q.L.l).length c) Q.L.l :: row k41 41 (.slice B (Q.es).length d) Q.es :: rs)) := H0
 clear H0
 have c_l := H.out.cell (g := gl) aP
 have hmf : ∀ (fn : Fn) (first cap : Array Value) (w : World), (Instr.makeFunc fn first cap).run Tryz.prog w = .ok (.func fn first cap) w := fun _ _ _ _ => rfl
 go_enter Tryz.func60, Tryz.ntmps60
 go_wp2_with (first
 |((with_reducible refine aU (N := 3) rfl ?_);
   refine bK rfl H (cs := [.int .u64 q]) (t := 28) ?hr ?_;
   (case hr => first | (go_simp; done) | (go_simp; rfl));
   intro gs wd4 n_;
   simp only [Act.put, zA, zZ, zS];
   clear H c_l;
   have H := n_;
   clear n_;
   have c_s := H.out.cell (g := gs) aP;
   have c_l := H.out.cell (g := gl) mem1)
 |fail)
 refine ((LQ (lM q) 102 [.pointer (some ⟨gs, 0, none⟩)] B d Q.es _ (H.out.reads mem3).2.2 (fun args w => by simp [go_sem]) (fun x w' hb => qcx x gs q w' (bG (H.out.jF (g := gs) aP) hb))).mono ?_)
 rintro e wd5 ⟨rfl, hb_⟩
 have n_ : aC (Sep b wd5 (box gs [.int .u64 q] 28 :: box gl [.slice A Q.L.l.length c, .bool Q.L.dn, .int .i64 Q.L.fu, .int .i64 Q.L.fa, .int .i64 Q.L.size, .int .u64 Q.L.fr, .int .u64 Q.L.nx, .bool Q.L.br, .slice B Q.es.length d, .int .i64 Q.most] 101 :: row k67 67 (.slice A (Q.L.l).length c) Q.L.l :: row k41 41 (.slice B (Q.es).length d) Q.es :: rs)) := ⟨H.out.step hb_⟩
 clear H c_s c_l
 have H := n_
 clear n_
 have c_s := H.out.cell (g := gs) aP
 have c_l := H.out.cell (g := gl) mem1
 clear hb_
 cases hix : sK (lM q) Q.es with
 | none =>
  have hi : EH (lM q) Q.es = -1 := by rw [EH, hix]
  rw [hi]
  go_wp2_with fail
  refine (uM 19 _).mono ?_
  rintro e w_ ⟨rfl, rfl⟩
  exact ⟨rfl, .inr ⟨hix, rfl⟩, ⟨(Sep.eG H.out)⟩⟩
 | some i =>
  have hi : EH (lM q) Q.es = (i : Int) := by rw [EH, hix]
  rw [hi]
  have hi0 : (0 : Int) ≤ (i : Int) := by omega
  go_wp2_with fail
  refine (rP 19 _).mono ?_
  rintro e w_ ⟨rfl, rfl⟩
  go_wp2_with fail
  go_ret
  exact ⟨.inl ⟨i, hix, rfl⟩, ⟨(Sep.eG H.out)⟩⟩
theorem qcy (W : World) (ok : Nat → Prop) (x : Int) : fF ((Kd.int .u8).M W 0 ok) (Kd.int .u8).sz [x] [.int .u8 x] := by
 refine ⟨rfl, fun j p hj => ?_⟩
 have hj0 : j = 0 := by
  have := (List.getElem?_eq_some_iff.1 hj).1
  simpa using this
 subst hj0
 have : x = p := by simpa using hj
 subst this
 rfl
def qcz (n : Int) : List Int := 65 :: qW n 8
def kM (n : Int) : ByteArray := strOfNums (qcz n)
theorem LU (n : Int) : (kM n).size = 9 := by rw [kM, strOfNums_size]; simp [qcz, qW]
set_option maxHeartbeats 4000000 in
theorem ZR (n : Int) (w : World) (hn : 0 ≤ n) (hn2 : n < 18446744073709551616) : Calls Tryz.prog 61 #[.int .u64 n] w fun e w' => e = .returned (.string (kM n)) ∧ Below w.heap.size w w' := by
 have H := aC.mk (Sep.start w)
 go_enter Tryz.func61, Tryz.ntmps61
 go_wp2_with (first
 |((with_reducible refine aU (N := 5) rfl ?_);
   refine qcv rfl H [.int .u8 65] 5 1 ?hr ?_;
   (case hr => first | (go_simp; done) | (go_simp; rfl));
   intro go wd6 m_;
   have n_ := aC.mk (qcw (d := Kd.int .u8) (l := [(65 : Int)]) (qcy _ _ _) (by decide) m_.out);
   clear m_;
   simp only [Act.put, zA, zZ, zS];
   clear H;
   have H := n_;
   clear n_)
 |fail)
 go_loopw [3, 4] (fun v3 v4 wr => ∃ (k : Nat) (A : Option Addr) (c : Nat) (ys : List Int), v3 = .slice A ys.length c ∧ v4 = .int .i64 ((8 * k : Nat) : Int) ∧ k ≤ 8 ∧ ys.length ≤ 9 ∧ aC (ys = 65 :: qW n k) ∧ aC (Sep w wr [row (Kd.int .u8) 5 (.slice A ys.length c) ys]))
  (fun _ v4 _ => 64 - (intOf v4).toNat)
 case atStart => exact ⟨0, some ⟨go, 0, none⟩, 1, [65], rfl, rfl, by omega, by decide, ⟨rfl⟩, H⟩
 case round =>
  clear H
  obtain ⟨k, A, c, ys, rfl, rfl, hk, hy, HY, H⟩ := hrel
  by_cases hlt : k < 8
  ·have hk2 : ((8 * k : Nat) : Int) < 64 := by omega
   have hk0 : (0 : Int) ≤ ((8 * k : Nat) : Int) := by omega
   have hw3 : wrap64 (((8 * k : Nat) : Int) + 8) = ((8 * (k + 1) : Nat) : Int) := by
    unfold wrap64
    omega
   have hy2 : ys.length < 9 := by rw [HY.out]; simp [qW]; omega
   go_wp2_with (first
 |((with_reducible refine jC (b := .append) (xs := #[.tmp 10, .tmp 15]) rfl ?_); at_builtin;
   refine PV (Kd.int .u8) (PU _) rfl (.tmp 10) (.tmp 15) 147 5 (.int .u8 0) 1 rfl Tryz.underlying147 info5 rfl (by decide) (by omega) _ ys (n / 2 ^ (8 * k) % 256) [.int .u8 (n / 2 ^ (8 * k) % 256)] rfl rfl ?hp H ?hl ?_;
   (case hp => rfl); (case hl => omega);
   intro A1 c1 w1 H1; clear H; have H := H1; clear H1;
   simp only [Act.put, zA, zZ, zS])
 |fail)
   try rw [hw3]
   refine ⟨⟨k + 1, A1, c1, ys ++ [n / 2 ^ (8 * k) % 256], ?_, rfl, by omega, ?_, ⟨by rw [HY.out, KX]; rfl⟩, H⟩, by simp [intOf]; omega⟩
   ·rw [List.length_append, List.length_singleton]
   ·rw [List.length_append, List.length_singleton]
    omega
  ·obtain rfl : k = 8 := by omega
   have hs2 := Kd.wE (P := Tryz.prog) (src := 147) (dst := 9) (e := 5) (c := c) Tryz.underlying147 Tryz.underlying5 Tryz.underlying9 (H.out.reads aP).2.2
   go_wp2_with fail
   go_ret
   exact ⟨by rw [HY.out]; rfl, H.out.below⟩
end Go.Proofs.U
