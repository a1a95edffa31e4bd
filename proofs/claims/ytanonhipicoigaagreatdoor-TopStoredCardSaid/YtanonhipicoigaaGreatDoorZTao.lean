import Derived.Test.YtanonhipicoigaaGreatDoorZTai
import Derived.Test.YtanonhipicoigaaGreatDoorZTak
import Derived.Test.YtanonhipicoigaaGreatDoorZTan
import Derived.Test.YtanonhipicoigaaGreatDoorZTag
set_option linter.unusedVariables false
set_option linter.unusedSimpArgs false
set_option maxRecDepth 100000
namespace Go.Proofs.U
open Go.RowKit Go.Proofs.aA.aK Go.Proofs.aA.aW Go.Proofs.aA.aZ
attribute [local go_sem] gV gW iU iV fU fV gZ iC
def fZ.f (bF : List (S67)) (cO : Bool) (cZ : Int) (dA : Int) (fB : Int) (fD : Int) (eP : Int) (fO : Bool) : Option (Int) := (dO.f bF cO cZ dA).bind fun zJ => (if zJ = 0 then (if fB < 1 then (some 6) else (if fB > 262144 then (some 6) else (if fD > eP then (some 6) else (if eP > 4611686018427387904 then (some 6) else (some 0))))) else (some 6))
set_option maxHeartbeats 8000000 in
theorem fZ.calls (dQ : Option Addr) (dR : Nat) (bF : List (S67)) (cO : Bool) (cZ : Int) (dA : Int) (fB : Int) (fD : Int) (eP : Int) (fO : Bool) (r : Int) (w : World) (jV : Kd.C k67 w dQ bF.length bF) (lF : bF.length ≤ dR) (h : fZ.f bF cO cZ dA fB fD eP fO = some r) :
    Calls Tryz.prog 33 #[.agg #[.slice dQ bF.length dR, .bool cO, .int .i64 cZ, .int .i64 dA, .int .i64 fB, .int .u64 fD, .int .u64 eP, .bool fO]] w fun e w' => e = .returned (.int .i64 r) ∧ Below w.heap.size w w' := by
  have qhY := Tryz.underlying30
  have qhZ := Tryz.underlying27
  have zQ := aC.mk jV
  have zT := aC.mk lF
  clear jV lF
  have HB := aC.mk (Below.refl w.heap.size w)
  have H : ((dO.f bF cO cZ dA).bind fun zJ => (if zJ = 0 then (if fB < 1 then (some 6) else (if fB > 262144 then (some 6) else (if fD > eP then (some 6) else (if eP > 4611686018427387904 then (some 6) else (some 0))))) else (some 6))) = some r := h
  clear h
  replace H := Option.bind_eq_some_iff.mp H
  obtain ⟨zJ, A20, H⟩ := H
  replace H : (if zJ = 0 then (if fB < 1 then (some 6) else (if fB > 262144 then (some 6) else (if fD > eP then (some 6) else (if eP > 4611686018427387904 then (some 6) else (some 0))))) else (some 6)) = some r := H
  have A2 := aC.mk A20
  clear A20
  by_cases c3 : zJ = 0
  · rw [if_pos c3] at H
    have KP : (zJ == 0) = true := beq_iff_eq.mpr c3
    have qbX : (zJ != 0) = false := bne_eq_false_iff_eq.mpr c3
    clear c3
    by_cases c4 : fB < 1
    · rw [if_pos c4] at H
      have qc9 : decide (fB < 1) = true := decide_eq_true c4
      clear c4
      obtain rfl := Option.some.inj H
      go_enter Tryz.func33, Tryz.ntmps33
      go_wp2_with (first | ((with_reducible refine aV (N := 1) rfl ?_); refine dL ?hg (N := 1) ?hd (cs := #[.slice dQ bF.length dR, .bool cO, .int .i64 cZ, .int .i64 dA, .int .i64 fB, .int .u64 fD, .int .u64 eP, .bool fO]) (t := 30) ?hr ?_; (case hd => rfl); (case hg => rfl); (case hr => first | (go_simp; done) | (go_simp; rfl)); intro bY hg w5 hbox hb; have n0_ := aC.mk (bD (by repeat (first | (with_reducible first | exact HB.out | apply aU | apply aT | apply aY) | exact HB.out)) hb); have n1_ := aC.mk (hbox); have n2_ := aC.mk ((by rw [hg]; exact (dU (by repeat (first | (with_reducible first | exact HB.out | apply aU | apply aT | apply aY) | exact HB.out))) : w.heap.size ≤ bY)); have n3_ := aC.mk ((by rw [hg]; exact (dU (by repeat (first | (with_reducible first | exact HB.out | apply aU | apply aT | apply aY) | exact HB.out))) : w.heap.size ≤ bY)); clear HB; have HB := n0_; have bC := n1_; have S9 := n2_; have rE := n3_; clear n0_ n1_ n2_ n3_; clear hb hbox hg; have qh0 : w5.cell? ⟨bY, 0, none⟩ = some (.slice dQ bF.length dR) := (aH bC.out 0).trans rfl; have qh1 : w5.cell? ⟨bY, 1, none⟩ = some (.bool cO) := (aH bC.out 1).trans rfl; have qh2 : w5.cell? ⟨bY, 2, none⟩ = some (.int .i64 cZ) := (aH bC.out 2).trans rfl; have qh3 : w5.cell? ⟨bY, 3, none⟩ = some (.int .i64 dA) := (aH bC.out 3).trans rfl; have qh4 : w5.cell? ⟨bY, 4, none⟩ = some (.int .i64 fB) := (aH bC.out 4).trans rfl; have qh5 : w5.cell? ⟨bY, 5, none⟩ = some (.int .u64 fD) := (aH bC.out 5).trans rfl; have qh6 : w5.cell? ⟨bY, 6, none⟩ = some (.int .u64 eP) := (aH bC.out 6).trans rfl; have qh7 : w5.cell? ⟨bY, 7, none⟩ = some (.bool fO) := (aH bC.out 7).trans rfl; have qh8 := aG bC.out 0; have qh9 := aG bC.out 1; have qia := aG bC.out 2; have qib := aG bC.out 3; have qic := aG bC.out 4; have qid := aG bC.out 5; have qie := aG bC.out 6; have qif := aG bC.out 7) | ((with_reducible refine iT (f := 50) rfl ?_); refine rO (some 5) rfl rfl Tryz.func50 (by kernel_rfl) rfl #[.agg #[.slice dQ bF.length dR, .bool cO, .int .i64 cZ, .int .i64 dA]] rfl (by (try simp only [List.map_toArray, List.map_cons, List.map_nil]); first | done | rfl | (simp only [List.length_drop, List.length_take]; rfl)) ?_; (with_reducible refine (dO.calls _ _ bF cO cZ dA zJ _ ?qB ?qC A2.out).mono ?_); (case qB => repeat (first | exact (Kd.fG zQ.out HB.out) | (with_reducible refine Kd.rZ ?_ _) | (with_reducible refine Kd.sD ?_ _) | (with_reducible refine Kd.vZ ?_))); (case qC => exact zT.out); rintro e w7 ⟨rfl, hb⟩; refine ⟨_, rfl, ?_⟩; have n0_ := aC.mk (bJ (g := bY) (o := .cells #[.slice dQ bF.length dR, .bool cO, .int .i64 cZ, .int .i64 dA, .int .i64 fB, .int .u64 fD, .int .u64 eP, .bool fO] 30 (0, 0)) (by (with_reducible repeat (first | refine bZ ?_ _ | refine bQ ?_ | refine bG ?_ _)); exact bC.out) hb); have n1_ := aC.mk (bD (by repeat (first | (with_reducible first | exact HB.out | apply aU | apply aT | apply aY | refine bK ?_ rE.out) | exact HB.out)) hb); clear bC; clear HB; have bC := n0_; have HB := n1_; clear n0_ n1_; (try clear hb); (try clear hb2); (try clear hk); (try clear hi); have VL : w7.cell? ⟨bY, 0, none⟩ = some (.slice dQ bF.length dR) := (aH bC.out 0).trans rfl; have VN : w7.cell? ⟨bY, 1, none⟩ = some (.bool cO) := (aH bC.out 1).trans rfl; have VO : w7.cell? ⟨bY, 2, none⟩ = some (.int .i64 cZ) := (aH bC.out 2).trans rfl; have VP : w7.cell? ⟨bY, 3, none⟩ = some (.int .i64 dA) := (aH bC.out 3).trans rfl; have VQ : w7.cell? ⟨bY, 4, none⟩ = some (.int .i64 fB) := (aH bC.out 4).trans rfl; have VR : w7.cell? ⟨bY, 5, none⟩ = some (.int .u64 fD) := (aH bC.out 5).trans rfl; have VT : w7.cell? ⟨bY, 6, none⟩ = some (.int .u64 eP) := (aH bC.out 6).trans rfl; have VU : w7.cell? ⟨bY, 7, none⟩ = some (.bool fO) := (aH bC.out 7).trans rfl; have VW := aG bC.out 0; have VX := aG bC.out 1; have VY := aG bC.out 2; have VZ := aG bC.out 3; have V3 := aG bC.out 4; have V4 := aG bC.out 5; have V5 := aG bC.out 6; have V6 := aG bC.out 7))
      go_ret
      exact ⟨by first | rfl | (simp [eG, eH] <;> rfl) | (simp [*, eG, eH] <;> rfl), by repeat (first | (with_reducible first | exact HB.out | apply aU | apply aT | apply aY | refine bK ?_ rE.out) | exact HB.out)⟩
    · rw [if_neg c4] at H
      have qc9 : decide (fB < 1) = false := decide_eq_false c4
      clear c4
      by_cases c9 : fB > 262144
      · rw [if_pos c9] at H
        have qfi : decide (262144 < fB) = true := decide_eq_true c9
        clear c9
        obtain rfl := Option.some.inj H
        go_enter Tryz.func33, Tryz.ntmps33
        go_wp2_with (first | ((with_reducible refine aV (N := 1) rfl ?_); refine dL ?hg (N := 1) ?hd (cs := #[.slice dQ bF.length dR, .bool cO, .int .i64 cZ, .int .i64 dA, .int .i64 fB, .int .u64 fD, .int .u64 eP, .bool fO]) (t := 30) ?hr ?_; (case hd => rfl); (case hg => rfl); (case hr => first | (go_simp; done) | (go_simp; rfl)); intro bY hg w10 hbox hb; have n0_ := aC.mk (bD (by repeat (first | (with_reducible first | exact HB.out | apply aU | apply aT | apply aY) | exact HB.out)) hb); have n1_ := aC.mk (hbox); have n2_ := aC.mk ((by rw [hg]; exact (dU (by repeat (first | (with_reducible first | exact HB.out | apply aU | apply aT | apply aY) | exact HB.out))) : w.heap.size ≤ bY)); have n3_ := aC.mk ((by rw [hg]; exact (dU (by repeat (first | (with_reducible first | exact HB.out | apply aU | apply aT | apply aY) | exact HB.out))) : w.heap.size ≤ bY)); clear HB; have HB := n0_; have bC := n1_; have S9 := n2_; have rE := n3_; clear n0_ n1_ n2_ n3_; clear hb hbox hg; have OW : w10.cell? ⟨bY, 0, none⟩ = some (.slice dQ bF.length dR) := (aH bC.out 0).trans rfl; have OX : w10.cell? ⟨bY, 1, none⟩ = some (.bool cO) := (aH bC.out 1).trans rfl; have OY : w10.cell? ⟨bY, 2, none⟩ = some (.int .i64 cZ) := (aH bC.out 2).trans rfl; have OZ : w10.cell? ⟨bY, 3, none⟩ = some (.int .i64 dA) := (aH bC.out 3).trans rfl; have O1 : w10.cell? ⟨bY, 4, none⟩ = some (.int .i64 fB) := (aH bC.out 4).trans rfl; have O4 : w10.cell? ⟨bY, 5, none⟩ = some (.int .u64 fD) := (aH bC.out 5).trans rfl; have O5 : w10.cell? ⟨bY, 6, none⟩ = some (.int .u64 eP) := (aH bC.out 6).trans rfl; have O6 : w10.cell? ⟨bY, 7, none⟩ = some (.bool fO) := (aH bC.out 7).trans rfl; have O7 := aG bC.out 0; have O8 := aG bC.out 1; have O9 := aG bC.out 2; have PD := aG bC.out 3; have PE := aG bC.out 4; have PG := aG bC.out 5; have PI := aG bC.out 6; have PK := aG bC.out 7) | ((with_reducible refine iT (f := 50) rfl ?_); refine rO (some 5) rfl rfl Tryz.func50 (by kernel_rfl) rfl #[.agg #[.slice dQ bF.length dR, .bool cO, .int .i64 cZ, .int .i64 dA]] rfl (by (try simp only [List.map_toArray, List.map_cons, List.map_nil]); first | done | rfl | (simp only [List.length_drop, List.length_take]; rfl)) ?_; (with_reducible refine (dO.calls _ _ bF cO cZ dA zJ _ ?qB ?qC A2.out).mono ?_); (case qB => repeat (first | exact (Kd.fG zQ.out HB.out) | (with_reducible refine Kd.rZ ?_ _) | (with_reducible refine Kd.sD ?_ _) | (with_reducible refine Kd.vZ ?_))); (case qC => exact zT.out); rintro e w12 ⟨rfl, hb⟩; refine ⟨_, rfl, ?_⟩; have n0_ := aC.mk (bJ (g := bY) (o := .cells #[.slice dQ bF.length dR, .bool cO, .int .i64 cZ, .int .i64 dA, .int .i64 fB, .int .u64 fD, .int .u64 eP, .bool fO] 30 (0, 0)) (by (with_reducible repeat (first | refine bZ ?_ _ | refine bQ ?_ | refine bG ?_ _)); exact bC.out) hb); have n1_ := aC.mk (bD (by repeat (first | (with_reducible first | exact HB.out | apply aU | apply aT | apply aY | refine bK ?_ rE.out) | exact HB.out)) hb); clear bC; clear HB; have bC := n0_; have HB := n1_; clear n0_ n1_; (try clear hb); (try clear hb2); (try clear hk); (try clear hi); have PL : w12.cell? ⟨bY, 0, none⟩ = some (.slice dQ bF.length dR) := (aH bC.out 0).trans rfl; have PN : w12.cell? ⟨bY, 1, none⟩ = some (.bool cO) := (aH bC.out 1).trans rfl; have PO : w12.cell? ⟨bY, 2, none⟩ = some (.int .i64 cZ) := (aH bC.out 2).trans rfl; have PS : w12.cell? ⟨bY, 3, none⟩ = some (.int .i64 dA) := (aH bC.out 3).trans rfl; have PU : w12.cell? ⟨bY, 4, none⟩ = some (.int .i64 fB) := (aH bC.out 4).trans rfl; have PV : w12.cell? ⟨bY, 5, none⟩ = some (.int .u64 fD) := (aH bC.out 5).trans rfl; have PW : w12.cell? ⟨bY, 6, none⟩ = some (.int .u64 eP) := (aH bC.out 6).trans rfl; have PX : w12.cell? ⟨bY, 7, none⟩ = some (.bool fO) := (aH bC.out 7).trans rfl; have PY := aG bC.out 0; have PZ := aG bC.out 1; have P5 := aG bC.out 2; have P6 := aG bC.out 3; have P7 := aG bC.out 4; have P8 := aG bC.out 5; have P9 := aG bC.out 6; have QA := aG bC.out 7))
        go_ret
        exact ⟨by first | rfl | (simp [eG, eH] <;> rfl) | (simp [*, eG, eH] <;> rfl), by repeat (first | (with_reducible first | exact HB.out | apply aU | apply aT | apply aY | refine bK ?_ rE.out) | exact HB.out)⟩
      · rw [if_neg c9] at H
        have qfi : decide (262144 < fB) = false := decide_eq_false c9
        clear c9
        by_cases c14 : fD > eP
        · rw [if_pos c14] at H
          have qfj : decide (eP < fD) = true := decide_eq_true c14
          clear c14
          obtain rfl := Option.some.inj H
          go_enter Tryz.func33, Tryz.ntmps33
          go_wp2_with (first | ((with_reducible refine aV (N := 1) rfl ?_); refine dL ?hg (N := 1) ?hd (cs := #[.slice dQ bF.length dR, .bool cO, .int .i64 cZ, .int .i64 dA, .int .i64 fB, .int .u64 fD, .int .u64 eP, .bool fO]) (t := 30) ?hr ?_; (case hd => rfl); (case hg => rfl); (case hr => first | (go_simp; done) | (go_simp; rfl)); intro bY hg w15 hbox hb; have n0_ := aC.mk (bD (by repeat (first | (with_reducible first | exact HB.out | apply aU | apply aT | apply aY) | exact HB.out)) hb); have n1_ := aC.mk (hbox); have n2_ := aC.mk ((by rw [hg]; exact (dU (by repeat (first | (with_reducible first | exact HB.out | apply aU | apply aT | apply aY) | exact HB.out))) : w.heap.size ≤ bY)); have n3_ := aC.mk ((by rw [hg]; exact (dU (by repeat (first | (with_reducible first | exact HB.out | apply aU | apply aT | apply aY) | exact HB.out))) : w.heap.size ≤ bY)); clear HB; have HB := n0_; have bC := n1_; have S9 := n2_; have rE := n3_; clear n0_ n1_ n2_ n3_; clear hb hbox hg; have XI : w15.cell? ⟨bY, 0, none⟩ = some (.slice dQ bF.length dR) := (aH bC.out 0).trans rfl; have XJ : w15.cell? ⟨bY, 1, none⟩ = some (.bool cO) := (aH bC.out 1).trans rfl; have XK : w15.cell? ⟨bY, 2, none⟩ = some (.int .i64 cZ) := (aH bC.out 2).trans rfl; have XL : w15.cell? ⟨bY, 3, none⟩ = some (.int .i64 dA) := (aH bC.out 3).trans rfl; have XM : w15.cell? ⟨bY, 4, none⟩ = some (.int .i64 fB) := (aH bC.out 4).trans rfl; have XO : w15.cell? ⟨bY, 5, none⟩ = some (.int .u64 fD) := (aH bC.out 5).trans rfl; have XP : w15.cell? ⟨bY, 6, none⟩ = some (.int .u64 eP) := (aH bC.out 6).trans rfl; have XQ : w15.cell? ⟨bY, 7, none⟩ = some (.bool fO) := (aH bC.out 7).trans rfl; have XR := aG bC.out 0; have XT := aG bC.out 1; have XU := aG bC.out 2; have XV := aG bC.out 3; have XW := aG bC.out 4; have XY := aG bC.out 5; have XZ := aG bC.out 6; have X0 := aG bC.out 7) | ((with_reducible refine iT (f := 50) rfl ?_); refine rO (some 5) rfl rfl Tryz.func50 (by kernel_rfl) rfl #[.agg #[.slice dQ bF.length dR, .bool cO, .int .i64 cZ, .int .i64 dA]] rfl (by (try simp only [List.map_toArray, List.map_cons, List.map_nil]); first | done | rfl | (simp only [List.length_drop, List.length_take]; rfl)) ?_; (with_reducible refine (dO.calls _ _ bF cO cZ dA zJ _ ?qB ?qC A2.out).mono ?_); (case qB => repeat (first | exact (Kd.fG zQ.out HB.out) | (with_reducible refine Kd.rZ ?_ _) | (with_reducible refine Kd.sD ?_ _) | (with_reducible refine Kd.vZ ?_))); (case qC => exact zT.out); rintro e w17 ⟨rfl, hb⟩; refine ⟨_, rfl, ?_⟩; have n0_ := aC.mk (bJ (g := bY) (o := .cells #[.slice dQ bF.length dR, .bool cO, .int .i64 cZ, .int .i64 dA, .int .i64 fB, .int .u64 fD, .int .u64 eP, .bool fO] 30 (0, 0)) (by (with_reducible repeat (first | refine bZ ?_ _ | refine bQ ?_ | refine bG ?_ _)); exact bC.out) hb); have n1_ := aC.mk (bD (by repeat (first | (with_reducible first | exact HB.out | apply aU | apply aT | apply aY | refine bK ?_ rE.out) | exact HB.out)) hb); clear bC; clear HB; have bC := n0_; have HB := n1_; clear n0_ n1_; (try clear hb); (try clear hb2); (try clear hk); (try clear hi); have qfK : w17.cell? ⟨bY, 0, none⟩ = some (.slice dQ bF.length dR) := (aH bC.out 0).trans rfl; have qfL : w17.cell? ⟨bY, 1, none⟩ = some (.bool cO) := (aH bC.out 1).trans rfl; have qfM : w17.cell? ⟨bY, 2, none⟩ = some (.int .i64 cZ) := (aH bC.out 2).trans rfl; have qfN : w17.cell? ⟨bY, 3, none⟩ = some (.int .i64 dA) := (aH bC.out 3).trans rfl; have qfO : w17.cell? ⟨bY, 4, none⟩ = some (.int .i64 fB) := (aH bC.out 4).trans rfl; have qfP : w17.cell? ⟨bY, 5, none⟩ = some (.int .u64 fD) := (aH bC.out 5).trans rfl; have qfQ : w17.cell? ⟨bY, 6, none⟩ = some (.int .u64 eP) := (aH bC.out 6).trans rfl; have qfR : w17.cell? ⟨bY, 7, none⟩ = some (.bool fO) := (aH bC.out 7).trans rfl; have qfS := aG bC.out 0; have qfT := aG bC.out 1; have qfU := aG bC.out 2; have qfV := aG bC.out 3; have qfW := aG bC.out 4; have qfX := aG bC.out 5; have qfY := aG bC.out 6; have qfZ := aG bC.out 7))
          go_ret
          exact ⟨by first | rfl | (simp [eG, eH] <;> rfl) | (simp [*, eG, eH] <;> rfl), by repeat (first | (with_reducible first | exact HB.out | apply aU | apply aT | apply aY | refine bK ?_ rE.out) | exact HB.out)⟩
        · rw [if_neg c14] at H
          have qfj : decide (eP < fD) = false := decide_eq_false c14
          clear c14
          by_cases c19 : eP > 4611686018427387904
          · rw [if_pos c19] at H
            have qdN : decide (4611686018427387904 < eP) = true := decide_eq_true c19
            clear c19
            obtain rfl := Option.some.inj H
            go_enter Tryz.func33, Tryz.ntmps33
            go_wp2_with (first | ((with_reducible refine aV (N := 1) rfl ?_); refine dL ?hg (N := 1) ?hd (cs := #[.slice dQ bF.length dR, .bool cO, .int .i64 cZ, .int .i64 dA, .int .i64 fB, .int .u64 fD, .int .u64 eP, .bool fO]) (t := 30) ?hr ?_; (case hd => rfl); (case hg => rfl); (case hr => first | (go_simp; done) | (go_simp; rfl)); intro bY hg w20 hbox hb; have n0_ := aC.mk (bD (by repeat (first | (with_reducible first | exact HB.out | apply aU | apply aT | apply aY) | exact HB.out)) hb); have n1_ := aC.mk (hbox); have n2_ := aC.mk ((by rw [hg]; exact (dU (by repeat (first | (with_reducible first | exact HB.out | apply aU | apply aT | apply aY) | exact HB.out))) : w.heap.size ≤ bY)); have n3_ := aC.mk ((by rw [hg]; exact (dU (by repeat (first | (with_reducible first | exact HB.out | apply aU | apply aT | apply aY) | exact HB.out))) : w.heap.size ≤ bY)); clear HB; have HB := n0_; have bC := n1_; have S9 := n2_; have rE := n3_; clear n0_ n1_ n2_ n3_; clear hb hbox hg; have qf0 : w20.cell? ⟨bY, 0, none⟩ = some (.slice dQ bF.length dR) := (aH bC.out 0).trans rfl; have qf1 : w20.cell? ⟨bY, 1, none⟩ = some (.bool cO) := (aH bC.out 1).trans rfl; have qf2 : w20.cell? ⟨bY, 2, none⟩ = some (.int .i64 cZ) := (aH bC.out 2).trans rfl; have qf3 : w20.cell? ⟨bY, 3, none⟩ = some (.int .i64 dA) := (aH bC.out 3).trans rfl; have qf4 : w20.cell? ⟨bY, 4, none⟩ = some (.int .i64 fB) := (aH bC.out 4).trans rfl; have qf5 : w20.cell? ⟨bY, 5, none⟩ = some (.int .u64 fD) := (aH bC.out 5).trans rfl; have qf6 : w20.cell? ⟨bY, 6, none⟩ = some (.int .u64 eP) := (aH bC.out 6).trans rfl; have qf7 : w20.cell? ⟨bY, 7, none⟩ = some (.bool fO) := (aH bC.out 7).trans rfl; have qf8 := aG bC.out 0; have qf9 := aG bC.out 1; have qga := aG bC.out 2; have qgb := aG bC.out 3; have qgc := aG bC.out 4; have qgd := aG bC.out 5; have qge := aG bC.out 6; have qgf := aG bC.out 7) | ((with_reducible refine iT (f := 50) rfl ?_); refine rO (some 5) rfl rfl Tryz.func50 (by kernel_rfl) rfl #[.agg #[.slice dQ bF.length dR, .bool cO, .int .i64 cZ, .int .i64 dA]] rfl (by (try simp only [List.map_toArray, List.map_cons, List.map_nil]); first | done | rfl | (simp only [List.length_drop, List.length_take]; rfl)) ?_; (with_reducible refine (dO.calls _ _ bF cO cZ dA zJ _ ?qB ?qC A2.out).mono ?_); (case qB => repeat (first | exact (Kd.fG zQ.out HB.out) | (with_reducible refine Kd.rZ ?_ _) | (with_reducible refine Kd.sD ?_ _) | (with_reducible refine Kd.vZ ?_))); (case qC => exact zT.out); rintro e w22 ⟨rfl, hb⟩; refine ⟨_, rfl, ?_⟩; have n0_ := aC.mk (bJ (g := bY) (o := .cells #[.slice dQ bF.length dR, .bool cO, .int .i64 cZ, .int .i64 dA, .int .i64 fB, .int .u64 fD, .int .u64 eP, .bool fO] 30 (0, 0)) (by (with_reducible repeat (first | refine bZ ?_ _ | refine bQ ?_ | refine bG ?_ _)); exact bC.out) hb); have n1_ := aC.mk (bD (by repeat (first | (with_reducible first | exact HB.out | apply aU | apply aT | apply aY | refine bK ?_ rE.out) | exact HB.out)) hb); clear bC; clear HB; have bC := n0_; have HB := n1_; clear n0_ n1_; (try clear hb); (try clear hb2); (try clear hk); (try clear hi); have qgg : w22.cell? ⟨bY, 0, none⟩ = some (.slice dQ bF.length dR) := (aH bC.out 0).trans rfl; have qgh : w22.cell? ⟨bY, 1, none⟩ = some (.bool cO) := (aH bC.out 1).trans rfl; have qgi : w22.cell? ⟨bY, 2, none⟩ = some (.int .i64 cZ) := (aH bC.out 2).trans rfl; have qgj : w22.cell? ⟨bY, 3, none⟩ = some (.int .i64 dA) := (aH bC.out 3).trans rfl; have qgk : w22.cell? ⟨bY, 4, none⟩ = some (.int .i64 fB) := (aH bC.out 4).trans rfl; have qgl : w22.cell? ⟨bY, 5, none⟩ = some (.int .u64 fD) := (aH bC.out 5).trans rfl; have qgm : w22.cell? ⟨bY, 6, none⟩ = some (.int .u64 eP) := (aH bC.out 6).trans rfl; have qgn : w22.cell? ⟨bY, 7, none⟩ = some (.bool fO) := (aH bC.out 7).trans rfl; have qgo := aG bC.out 0; have qgp := aG bC.out 1; have qgq := aG bC.out 2; have qgr := aG bC.out 3; have qgs := aG bC.out 4; have qgt := aG bC.out 5; have qgu := aG bC.out 6; have qgv := aG bC.out 7))
            go_ret
            exact ⟨by first | rfl | (simp [eG, eH] <;> rfl) | (simp [*, eG, eH] <;> rfl), by repeat (first | (with_reducible first | exact HB.out | apply aU | apply aT | apply aY | refine bK ?_ rE.out) | exact HB.out)⟩
          · rw [if_neg c19] at H
            have qdN : decide (4611686018427387904 < eP) = false := decide_eq_false c19
            clear c19
            obtain rfl := Option.some.inj H
            go_enter Tryz.func33, Tryz.ntmps33
            go_wp2_with (first | ((with_reducible refine aV (N := 1) rfl ?_); refine dL ?hg (N := 1) ?hd (cs := #[.slice dQ bF.length dR, .bool cO, .int .i64 cZ, .int .i64 dA, .int .i64 fB, .int .u64 fD, .int .u64 eP, .bool fO]) (t := 30) ?hr ?_; (case hd => rfl); (case hg => rfl); (case hr => first | (go_simp; done) | (go_simp; rfl)); intro bY hg w24 hbox hb; have n0_ := aC.mk (bD (by repeat (first | (with_reducible first | exact HB.out | apply aU | apply aT | apply aY) | exact HB.out)) hb); have n1_ := aC.mk (hbox); have n2_ := aC.mk ((by rw [hg]; exact (dU (by repeat (first | (with_reducible first | exact HB.out | apply aU | apply aT | apply aY) | exact HB.out))) : w.heap.size ≤ bY)); have n3_ := aC.mk ((by rw [hg]; exact (dU (by repeat (first | (with_reducible first | exact HB.out | apply aU | apply aT | apply aY) | exact HB.out))) : w.heap.size ≤ bY)); clear HB; have HB := n0_; have bC := n1_; have S9 := n2_; have rE := n3_; clear n0_ n1_ n2_ n3_; clear hb hbox hg; have qda : w24.cell? ⟨bY, 0, none⟩ = some (.slice dQ bF.length dR) := (aH bC.out 0).trans rfl; have qdb : w24.cell? ⟨bY, 1, none⟩ = some (.bool cO) := (aH bC.out 1).trans rfl; have qdc : w24.cell? ⟨bY, 2, none⟩ = some (.int .i64 cZ) := (aH bC.out 2).trans rfl; have qgw : w24.cell? ⟨bY, 3, none⟩ = some (.int .i64 dA) := (aH bC.out 3).trans rfl; have qgx : w24.cell? ⟨bY, 4, none⟩ = some (.int .i64 fB) := (aH bC.out 4).trans rfl; have qgy : w24.cell? ⟨bY, 5, none⟩ = some (.int .u64 fD) := (aH bC.out 5).trans rfl; have qgz : w24.cell? ⟨bY, 6, none⟩ = some (.int .u64 eP) := (aH bC.out 6).trans rfl; have qgA : w24.cell? ⟨bY, 7, none⟩ = some (.bool fO) := (aH bC.out 7).trans rfl; have qdd := aG bC.out 0; have qde := aG bC.out 1; have qdf := aG bC.out 2; have qgB := aG bC.out 3; have qgC := aG bC.out 4; have qgD := aG bC.out 5; have qgE := aG bC.out 6; have qgF := aG bC.out 7) | ((with_reducible refine iT (f := 50) rfl ?_); refine rO (some 5) rfl rfl Tryz.func50 (by kernel_rfl) rfl #[.agg #[.slice dQ bF.length dR, .bool cO, .int .i64 cZ, .int .i64 dA]] rfl (by (try simp only [List.map_toArray, List.map_cons, List.map_nil]); first | done | rfl | (simp only [List.length_drop, List.length_take]; rfl)) ?_; (with_reducible refine (dO.calls _ _ bF cO cZ dA zJ _ ?qB ?qC A2.out).mono ?_); (case qB => repeat (first | exact (Kd.fG zQ.out HB.out) | (with_reducible refine Kd.rZ ?_ _) | (with_reducible refine Kd.sD ?_ _) | (with_reducible refine Kd.vZ ?_))); (case qC => exact zT.out); rintro e w26 ⟨rfl, hb⟩; refine ⟨_, rfl, ?_⟩; have n0_ := aC.mk (bJ (g := bY) (o := .cells #[.slice dQ bF.length dR, .bool cO, .int .i64 cZ, .int .i64 dA, .int .i64 fB, .int .u64 fD, .int .u64 eP, .bool fO] 30 (0, 0)) (by (with_reducible repeat (first | refine bZ ?_ _ | refine bQ ?_ | refine bG ?_ _)); exact bC.out) hb); have n1_ := aC.mk (bD (by repeat (first | (with_reducible first | exact HB.out | apply aU | apply aT | apply aY | refine bK ?_ rE.out) | exact HB.out)) hb); clear bC; clear HB; have bC := n0_; have HB := n1_; clear n0_ n1_; (try clear hb); (try clear hb2); (try clear hk); (try clear hi); have qgG : w26.cell? ⟨bY, 0, none⟩ = some (.slice dQ bF.length dR) := (aH bC.out 0).trans rfl; have qgH : w26.cell? ⟨bY, 1, none⟩ = some (.bool cO) := (aH bC.out 1).trans rfl; have qgI : w26.cell? ⟨bY, 2, none⟩ = some (.int .i64 cZ) := (aH bC.out 2).trans rfl; have qgJ : w26.cell? ⟨bY, 3, none⟩ = some (.int .i64 dA) := (aH bC.out 3).trans rfl; have qgK : w26.cell? ⟨bY, 4, none⟩ = some (.int .i64 fB) := (aH bC.out 4).trans rfl; have qgL : w26.cell? ⟨bY, 5, none⟩ = some (.int .u64 fD) := (aH bC.out 5).trans rfl; have qgM : w26.cell? ⟨bY, 6, none⟩ = some (.int .u64 eP) := (aH bC.out 6).trans rfl; have qgN : w26.cell? ⟨bY, 7, none⟩ = some (.bool fO) := (aH bC.out 7).trans rfl; have qgO := aG bC.out 0; have qgP := aG bC.out 1; have qgQ := aG bC.out 2; have qgR := aG bC.out 3; have qgS := aG bC.out 4; have qgT := aG bC.out 5; have qgU := aG bC.out 6; have qgV := aG bC.out 7))
            go_ret
            exact ⟨by first | rfl | (simp [eG, eH] <;> rfl) | (simp [*, eG, eH] <;> rfl), by repeat (first | (with_reducible first | exact HB.out | apply aU | apply aT | apply aY | refine bK ?_ rE.out) | exact HB.out)⟩
  · rw [if_neg c3] at H
    have KP : (zJ == 0) = false := beq_eq_false_iff_ne.mpr c3
    have qbX : (zJ != 0) = true := bne_iff_ne.mpr c3
    obtain rfl := Option.some.inj H
    go_enter Tryz.func33, Tryz.ntmps33
    go_wp2_with (first | ((with_reducible refine aV (N := 1) rfl ?_); refine dL ?hg (N := 1) ?hd (cs := #[.slice dQ bF.length dR, .bool cO, .int .i64 cZ, .int .i64 dA, .int .i64 fB, .int .u64 fD, .int .u64 eP, .bool fO]) (t := 30) ?hr ?_; (case hd => rfl); (case hg => rfl); (case hr => first | (go_simp; done) | (go_simp; rfl)); intro bY hg w28 hbox hb; have n0_ := aC.mk (bD (by repeat (first | (with_reducible first | exact HB.out | apply aU | apply aT | apply aY) | exact HB.out)) hb); have n1_ := aC.mk (hbox); have n2_ := aC.mk ((by rw [hg]; exact (dU (by repeat (first | (with_reducible first | exact HB.out | apply aU | apply aT | apply aY) | exact HB.out))) : w.heap.size ≤ bY)); have n3_ := aC.mk ((by rw [hg]; exact (dU (by repeat (first | (with_reducible first | exact HB.out | apply aU | apply aT | apply aY) | exact HB.out))) : w.heap.size ≤ bY)); clear HB; have HB := n0_; have bC := n1_; have S9 := n2_; have rE := n3_; clear n0_ n1_ n2_ n3_; clear hb hbox hg; have qdg : w28.cell? ⟨bY, 0, none⟩ = some (.slice dQ bF.length dR) := (aH bC.out 0).trans rfl; have qdh : w28.cell? ⟨bY, 1, none⟩ = some (.bool cO) := (aH bC.out 1).trans rfl; have qdi : w28.cell? ⟨bY, 2, none⟩ = some (.int .i64 cZ) := (aH bC.out 2).trans rfl; have qgW : w28.cell? ⟨bY, 3, none⟩ = some (.int .i64 dA) := (aH bC.out 3).trans rfl; have qgX : w28.cell? ⟨bY, 4, none⟩ = some (.int .i64 fB) := (aH bC.out 4).trans rfl; have qgY : w28.cell? ⟨bY, 5, none⟩ = some (.int .u64 fD) := (aH bC.out 5).trans rfl; have qgZ : w28.cell? ⟨bY, 6, none⟩ = some (.int .u64 eP) := (aH bC.out 6).trans rfl; have qg0 : w28.cell? ⟨bY, 7, none⟩ = some (.bool fO) := (aH bC.out 7).trans rfl; have qdj := aG bC.out 0; have qdk := aG bC.out 1; have qdl := aG bC.out 2; have qg1 := aG bC.out 3; have qg2 := aG bC.out 4; have qg3 := aG bC.out 5; have qg4 := aG bC.out 6; have qg5 := aG bC.out 7) | ((with_reducible refine iT (f := 50) rfl ?_); refine rO (some 5) rfl rfl Tryz.func50 (by kernel_rfl) rfl #[.agg #[.slice dQ bF.length dR, .bool cO, .int .i64 cZ, .int .i64 dA]] rfl (by (try simp only [List.map_toArray, List.map_cons, List.map_nil]); first | done | rfl | (simp only [List.length_drop, List.length_take]; rfl)) ?_; (with_reducible refine (dO.calls _ _ bF cO cZ dA zJ _ ?qB ?qC A2.out).mono ?_); (case qB => repeat (first | exact (Kd.fG zQ.out HB.out) | (with_reducible refine Kd.rZ ?_ _) | (with_reducible refine Kd.sD ?_ _) | (with_reducible refine Kd.vZ ?_))); (case qC => exact zT.out); rintro e w30 ⟨rfl, hb⟩; refine ⟨_, rfl, ?_⟩; have n0_ := aC.mk (bJ (g := bY) (o := .cells #[.slice dQ bF.length dR, .bool cO, .int .i64 cZ, .int .i64 dA, .int .i64 fB, .int .u64 fD, .int .u64 eP, .bool fO] 30 (0, 0)) (by (with_reducible repeat (first | refine bZ ?_ _ | refine bQ ?_ | refine bG ?_ _)); exact bC.out) hb); have n1_ := aC.mk (bD (by repeat (first | (with_reducible first | exact HB.out | apply aU | apply aT | apply aY | refine bK ?_ rE.out) | exact HB.out)) hb); clear bC; clear HB; have bC := n0_; have HB := n1_; clear n0_ n1_; (try clear hb); (try clear hb2); (try clear hk); (try clear hi)))
    go_ret
    exact ⟨by first | rfl | (simp [eG, eH] <;> rfl) | (simp [*, eG, eH] <;> rfl), by repeat (first | (with_reducible first | exact HB.out | apply aU | apply aT | apply aY | refine bK ?_ rE.out) | exact HB.out)⟩
end Go.Proofs.U
namespace Go.Proofs.U
open Go.RowKit Go.Proofs.aA.aK Go.Proofs.aA.aW Go.Proofs.aA.aZ Go.Proofs.Sp Go.Proofs.dZ
def okL (L : Lg) : Prop := bI L.l = true ∧ 1 ≤ L.size ∧ L.size ≤ 262144 ∧ L.fr ≤ L.nx ∧ L.nx ≤ 4611686018427387904
open Classical in
theorem yJ (L : Lg) : fZ.f L.l L.dn L.fu L.fa L.size L.fr L.nx L.br = some (if okL L then 0 else 6) := by
  unfold fZ.f dO.f okL
  by_cases h : bI L.l = true
  · simp only [if_pos h, Option.bind_some, if_true]
    by_cases h1 : L.size < 1
    · rw [if_pos h1, if_neg (fun x => by omega)]
    · rw [if_neg h1]
      by_cases h2 : L.size > 262144
      · rw [if_pos h2, if_neg (fun x => by omega)]
      · rw [if_neg h2]
        by_cases h3 : L.fr > L.nx
        · rw [if_pos h3, if_neg (fun x => by omega)]
        · rw [if_neg h3]
          by_cases h4 : L.nx > 4611686018427387904
          · rw [if_pos h4, if_neg (fun x => by omega)]
          · rw [if_neg h4, if_pos ⟨h, by omega, by omega, by omega, by omega⟩]
  · simp only [if_neg h, Option.bind_some]
    rw [if_neg (by decide), if_neg (fun x => h x.1)]
open Classical in
noncomputable def bT (L : Lg) (d : ByteArray) : Lg × Int := if okL L then iW L d else (Lz, 6)
set_option maxHeartbeats 8000000 in
theorem TA (A : Option Addr) (c : Nat) (l : List S67) (dn : Bool) (fu fa size fr : Int) (n : Nat) (br : Bool) (d : ByteArray) (w : World) (hr : Kd.C k67 w A l.length l) (hc : l.length ≤ c) (hG : Gl w) (hn : n < 18446744073709551616) :
  Calls Tryz.prog 31 #[.agg #[.slice A l.length c, .bool dn, .int .i64 fu, .int .i64 fa, .int .i64 size, .int .u64 fr, .int .u64 (n : Int), .bool br], .string d] w fun e w' => ∃ A' c', e = .returned (.tuple #[.agg (lgc A' c' (bT ⟨l, dn, fu, fa, size, fr, (n : Int), br⟩ d).1).toArray, .int .i64 (bT ⟨l, dn, fu, fa, size, fr, (n : Int), br⟩ d).2])
   ∧ aC (Sep w w' [oO A' c' (bT ⟨l, dn, fu, fa, size, fr, (n : Int), br⟩ d).1.l]) := by
 have HRp := aC.mk hr
 have HCp := aC.mk hc
 have HG := aC.mk hG
 clear hr hc hG
 obtain ⟨O, hO⟩ : ∃ O, O = bT ⟨l, dn, fu, fa, size, fr, (n : Int), br⟩ d := ⟨_, rfl⟩
 rw [← hO]
 have HO := aC.mk hO
 clear hO
 have H := aC.mk (Sep.start w)
 go_enter Tryz.func31, Tryz.ntmps31
 go_wp2_with (first
 |((with_reducible refine aV (N := 2) rfl ?_);
   refine bP rfl H (cs := [.slice A l.length c, .bool dn, .int .i64 fu, .int .i64 fa, .int .i64 size, .int .u64 fr, .int .u64 (n : Int), .bool br]) (t := 30) ?hr ?_;
   (case hr => first | (go_simp; done) | (go_simp; rfl));
   intro gm wd1 n_;
   simp only [Act.put, zA, zZ, zS];
   clear H;
   have H := n_;
   clear n_;
   have c_m := H.out.cell (g := gm) aQ)
 |((with_reducible refine aV (N := 3) rfl ?_);
   refine bP rfl H (cs := [.string d]) (t := 9) ?hr ?_;
   (case hr => first | (go_simp; done) | (go_simp; rfl));
   intro gt wd2 n_;
   simp only [Act.put, zA, zZ, zS];
   clear H c_m;
   have H := n_;
   clear n_;
   have c_t := H.out.cell (g := gt) aQ;
   have c_m := H.out.cell (g := gm) mem1)
 |((with_reducible refine aV (N := 4) rfl ?_);
   refine bP rfl H (cs := [.slice none 0 0, .bool false, .int .i64 0, .int .i64 0, .int .i64 0, .int .u64 0, .int .u64 0, .bool false]) (t := 30) ?hr ?_;
   (case hr => first | (go_simp; done) | (go_simp; rfl));
   intro gz wd3 n_;
   simp only [Act.put, zA, zZ, zS];
   clear H c_t c_m;
   have H := n_;
   clear n_;
   have c_z := H.out.cell (g := gz) aQ;
   have c_t := H.out.cell (g := gt) mem1;
   have c_m := H.out.cell (g := gm) mem2)
 |fail)
 by_cases hok : okL ⟨l, dn, fu, fa, size, fr, (n : Int), br⟩
 ·
  refine ((fZ.calls A c l dn fu fa size fr (n : Int) br 0 _ (H.out.came HRp.out) HCp.out (by have h := yJ ⟨l, dn, fu, fa, size, fr, (n : Int), br⟩; rw [if_pos hok] at h; exact h)).mono ?_)
  rintro e wd4 ⟨rfl, hb_⟩
  have n_ : aC (Sep w wd4 [box gz [.slice none 0 0, .bool false, .int .i64 0, .int .i64 0, .int .i64 0, .int .u64 0, .int .u64 0, .bool false] 30, box gt [.string d] 9, box gm [.slice A l.length c, .bool dn, .int .i64 fu, .int .i64 fa, .int .i64 size, .int .u64 fr, .int .u64 (n : Int), .bool br] 30]) := ⟨H.out.step hb_⟩
  clear H c_z c_t c_m
  have H := n_
  clear n_
  have c_z := H.out.cell (g := gz) aQ
  have c_t := H.out.cell (g := gt) mem1
  have c_m := H.out.cell (g := gm) mem2
  clear hb_
  have hlen : l.length ≤ 64 := lJ hok.1
  have hs1 : 1 ≤ size := hok.2.1
  have hs2 : size ≤ 262144 := hok.2.2.1
  have hok1 : bI l = true := hok.1
  have SY := aC.mk hok1
  have hOV : O = iW ⟨l, dn, fu, fa, size, fr, (n : Int), br⟩ d := by rw [HO.out, bT, if_pos hok]
  have HOV := aC.mk hOV
  clear hok hok1 HO hOV
  go_wp2_with fail
  refine ((OQ A c l dn fu fa _ (H.out.came HRp.out) hlen).mono ?_)
  rintro e wd5 ⟨A3, c3, rfl, HJ⟩
  have n_ : aC (Sep w wd5 [row k67 67 (.slice A3 (l).length c3) l, box gz [.slice none 0 0, .bool false, .int .i64 0, .int .i64 0, .int .i64 0, .int .u64 0, .int .u64 0, .bool false] 30, box gt [.string d] 9, box gm [.slice A l.length c, .bool dn, .int .i64 fu, .int .i64 fa, .int .i64 size, .int .u64 fr, .int .u64 (n : Int), .bool br] 30]) := ⟨gX H.out HJ.out⟩
  clear H c_z c_t c_m
  have H := n_
  clear n_
  have c_z := H.out.cell (g := gz) mem1
  have c_t := H.out.cell (g := gt) mem2
  have c_m := H.out.cell (g := gm) mem3
  have z_m := H.out.frozen (g := gm) mem3
  clear HJ
  go_wp2_with (first
 |((with_reducible refine aX (t := 27) (p := 14) rfl ?_);
   refine bM (rs1 := [row k67 67 (.slice A3 (l).length c3) l, box gz [.slice none 0 0, .bool false, .int .i64 0, .int .i64 0, .int .i64 0, .int .u64 0, .int .u64 0, .bool false] 30, box gt [.string d] 9, box gm [.slice A3 l.length c3, .bool dn, .int .i64 fu, .int .i64 fa, .int .i64 size, .int .u64 fr, .int .u64 (n : Int), .bool br] 30]) rfl (t := 27) (p := 14) rfl rfl ?hr (H1 := (Sep.eU (Sep.eU (Sep.eU (Sep.eU H.out 0 (.slice A3 l.length c3) rfl) 1 (.bool dn) rfl) 2 (.int .i64 fu) rfl) 3 (.int .i64 fa) rfl)) ?_;
   (case hr => first | (go_simp; done) | (go_simp; rfl));
   intro wd6 n_;
   clear H c_z c_t c_m z_m;
   have H := n_;
   clear n_;
   have c_z := H.out.cell (g := gz) mem1;
   have c_t := H.out.cell (g := gt) mem2;
   have c_m := H.out.cell (g := gm) mem3;
   have z_m := H.out.frozen (g := gm) mem3)
 |((with_reducible refine aV (N := 17) rfl ?_);
   refine bP rfl H (cs := [.slice A3 l.length c3, .bool dn, .int .i64 fu, .int .i64 fa, .int .i64 size, .int .u64 fr, .int .u64 (n : Int), .bool br]) (t := 134) ?hr ?_;
   (case hr => first | (go_simp; done) | (go_simp; rfl));
   intro gl wd7 n_;
   simp only [Act.put, zA, zZ, zS];
   clear H c_z c_t c_m z_m;
   have H := n_;
   clear n_;
   have c_l := H.out.cell (g := gl) aQ;
   have c_z := H.out.cell (g := gz) mem2;
   have c_t := H.out.cell (g := gt) mem3;
   have c_m := H.out.cell (g := gm) dM;
   have z_m := H.out.frozen (g := gm) dM)
 |((with_reducible refine aV (N := 6) rfl ?_);
   refine bP rfl H (cs := [.pointer none]) (t := 131) ?hr ?_;
   (case hr => first | (go_simp; done) | (go_simp; rfl));
   intro gv wd8 n_;
   simp only [Act.put, zA, zZ, zS];
   clear H c_l c_z c_t c_m z_m;
   have H := n_;
   clear n_;
   have c_v := H.out.cell (g := gv) aQ;
   have z_v := H.out.frozen (g := gv) aQ;
   have c_l := H.out.cell (g := gl) mem1;
   have c_z := H.out.cell (g := gz) mem3;
   have c_t := H.out.cell (g := gt) dM;
   have c_m := H.out.cell (g := gm) eF;
   have z_m := H.out.frozen (g := gm) eF)
 |((with_reducible refine aX (t := 131) (p := 6) rfl ?_);
   refine bM (rs1 := [box gv [.pointer (some ⟨gl, 0, none⟩)] 131, box gl [.slice A3 l.length c3, .bool dn, .int .i64 fu, .int .i64 fa, .int .i64 size, .int .u64 fr, .int .u64 (n : Int), .bool br] 134, row k67 67 (.slice A3 (l).length c3) l, box gz [.slice none 0 0, .bool false, .int .i64 0, .int .i64 0, .int .i64 0, .int .u64 0, .int .u64 0, .bool false] 30, box gt [.string d] 9, box gm [.slice A3 l.length c3, .bool dn, .int .i64 fu, .int .i64 fa, .int .i64 size, .int .u64 fr, .int .u64 (n : Int), .bool br] 30]) rfl (t := 131) (p := 6) rfl rfl ?hr (H1 := (Sep.set0 H.out 0 (.pointer (some ⟨gl, 0, none⟩)) rfl)) ?_;
   (case hr => first | (go_simp; done) | (go_simp; rfl));
   intro wd9 n_;
   clear H c_v z_v c_l c_z c_t c_m z_m;
   have H := n_;
   clear n_;
   have c_v := H.out.cell (g := gv) aQ;
   have z_v := H.out.frozen (g := gv) aQ;
   have c_l := H.out.cell (g := gl) mem1;
   have c_z := H.out.cell (g := gz) mem3;
   have c_t := H.out.cell (g := gt) dM;
   have c_m := H.out.cell (g := gm) eF;
   have z_m := H.out.frozen (g := gm) eF)
 |fail)
  have hdo := yD (qay w gl gm gt gv l dn fu fa size fr n br d A3 c3 SY.out (HG.out) hn hs1 hs2) [box gz [.slice none 0 0, .bool false, .int .i64 0, .int .i64 0, .int .i64 0, .int .u64 0, .int .u64 0, .bool false] 30]
  rw [← HOV.out] at hdo
  refine (AZ hdo (fun args w => by simp [go_sem]) A3 c3 _ ⟨(Sep.sW (Sep.sW (Sep.sW (Sep.iL (Sep.jK (Sep.jQ H.out))))))⟩).mono ?_
  rintro e FN ⟨A4, c4, rfl, H2⟩
  clear hdo
  have n_ : aC (Sep w FN [box gl [.slice A4 O.1.l.length c4, .bool O.1.dn, .int .i64 O.1.fu, .int .i64 O.1.fa, .int .i64 O.1.size, .int .u64 O.1.fr, .int .u64 O.1.nx, .bool O.1.br] 134, row k67 67 (.slice A4 (O.1.l).length c4) O.1.l, box gm [.slice A3 l.length c3, .bool dn, .int .i64 fu, .int .i64 fa, .int .i64 size, .int .u64 fr, .int .u64 (n : Int), .bool br] 30, box gt [.string d] 9, box gv [.pointer (some ⟨gl, 0, none⟩)] 131, box gz [.slice none 0 0, .bool false, .int .i64 0, .int .i64 0, .int .i64 0, .int .u64 0, .int .u64 0, .bool false] 30]) := ⟨H2.out⟩
  clear H c_v z_v c_l c_z c_t c_m z_m
  have H := n_
  clear n_
  have c_l := H.out.cell (g := gl) aQ
  have c_m := H.out.cell (g := gm) mem2
  have c_t := H.out.cell (g := gt) mem3
  have c_v := H.out.cell (g := gv) dM
  have c_z := H.out.cell (g := gz) eF
  have z_z := H.out.frozen (g := gz) eF
  clear H2
  simp only [lgc]
  go_wp2_with (first
 |((with_reducible refine aX (t := 30) (p := 4) rfl ?_);
   refine bM (rs1 := [box gl [.slice A4 O.1.l.length c4, .bool O.1.dn, .int .i64 O.1.fu, .int .i64 O.1.fa, .int .i64 O.1.size, .int .u64 O.1.fr, .int .u64 O.1.nx, .bool O.1.br] 134, row k67 67 (.slice A4 (O.1.l).length c4) O.1.l, box gm [.slice A3 l.length c3, .bool dn, .int .i64 fu, .int .i64 fa, .int .i64 size, .int .u64 fr, .int .u64 (n : Int), .bool br] 30, box gt [.string d] 9, box gv [.pointer (some ⟨gl, 0, none⟩)] 131, box gz [.slice A4 O.1.l.length c4, .bool O.1.dn, .int .i64 O.1.fu, .int .i64 O.1.fa, .int .i64 O.1.size, .int .u64 O.1.fr, .int .u64 O.1.nx, .bool O.1.br] 30]) rfl (t := 30) (p := 4) rfl rfl ?hr (H1 := (Sep.iJ (Sep.iJ (Sep.iJ (Sep.iJ (Sep.iJ (Sep.iJ (Sep.iJ (Sep.iJ H.out 0 (.slice A4 O.1.l.length c4) rfl) 1 (.bool O.1.dn) rfl) 2 (.int .i64 O.1.fu) rfl) 3 (.int .i64 O.1.fa) rfl) 4 (.int .i64 O.1.size) rfl) 5 (.int .u64 O.1.fr) rfl) 6 (.int .u64 O.1.nx) rfl) 7 (.bool O.1.br) rfl)) ?_;
   (case hr => first | (go_simp; done) | (go_simp; rfl));
   intro OU n_;
   clear H c_l c_m c_t c_v c_z z_z;
   have H := n_;
   clear n_;
   have c_l := H.out.cell (g := gl) aQ;
   have c_m := H.out.cell (g := gm) mem2;
   have c_t := H.out.cell (g := gt) mem3;
   have c_v := H.out.cell (g := gv) dM;
   have c_z := H.out.cell (g := gz) eF;
   have z_z := H.out.frozen (g := gz) eF)
 |fail)
  refine bodyPost_ret (dS (rs := [.cell 4 30, .tmp 5]) rfl (by simp) (.cell gz 30 _ _ _ rfl (H.out.lD (g := gz) eF) Tryz.underlying30 rfl info30 (.tmp .nil))) rfl ?_
  exact ⟨A4, c4, rfl, ⟨(Sep.dJ (Sep.drop2 (Sep.jU (Sep.oK (Sep.xQ H.out)))))⟩⟩
 ·
  refine ((fZ.calls A c l dn fu fa size fr (n : Int) br 6 _ (H.out.came HRp.out) HCp.out (by have h := yJ ⟨l, dn, fu, fa, size, fr, (n : Int), br⟩; rw [if_neg hok] at h; exact h)).mono ?_)
  rintro e FP ⟨rfl, hb_⟩
  have n_ : aC (Sep w FP [box gz [.slice none 0 0, .bool false, .int .i64 0, .int .i64 0, .int .i64 0, .int .u64 0, .int .u64 0, .bool false] 30, box gt [.string d] 9, box gm [.slice A l.length c, .bool dn, .int .i64 fu, .int .i64 fa, .int .i64 size, .int .u64 fr, .int .u64 (n : Int), .bool br] 30]) := ⟨H.out.step hb_⟩
  clear H c_z c_t c_m
  have H := n_
  clear n_
  have c_z := H.out.cell (g := gz) aQ
  have c_t := H.out.cell (g := gt) mem1
  have c_m := H.out.cell (g := gm) mem2
  clear hb_
  have hOV : O = (Lz, 6) := by rw [HO.out, bT, if_neg hok]
  clear HO hok
  clear c_z c_t c_m
  have c_z := H.out.cell (g := gz) aQ
  have z_z := H.out.frozen (g := gz) aQ
  have c_t := H.out.cell (g := gt) mem1
  have c_m := H.out.cell (g := gm) mem2
  go_wp2_with (first
 |((with_reducible refine aX (t := 30) (p := 4) rfl ?_);
   refine bM (rs1 := [box gz [.slice none 0 0, .bool false, .int .i64 0, .int .i64 0, .int .i64 0, .int .u64 0, .int .u64 0, .bool false] 30, box gt [.string d] 9, box gm [.slice A l.length c, .bool dn, .int .i64 fu, .int .i64 fa, .int .i64 size, .int .u64 fr, .int .u64 (n : Int), .bool br] 30]) rfl (t := 30) (p := 4) rfl rfl ?hr (H1 := (Sep.set0 (Sep.set0 (Sep.set0 (Sep.set0 (Sep.set0 (Sep.set0 (Sep.set0 (Sep.set0 H.out 0 (.slice none 0 0) rfl) 1 (.bool false) rfl) 2 (.int .i64 0) rfl) 3 (.int .i64 0) rfl) 4 (.int .i64 0) rfl) 5 (.int .u64 0) rfl) 6 (.int .u64 0) rfl) 7 (.bool false) rfl)) ?_;
   (case hr => first | (go_simp; done) | (go_simp; rfl));
   intro SX n_;
   clear H c_z z_z c_t c_m;
   have H := n_;
   clear n_;
   have c_z := H.out.cell (g := gz) aQ;
   have z_z := H.out.frozen (g := gz) aQ;
   have c_t := H.out.cell (g := gt) mem1;
   have c_m := H.out.cell (g := gm) mem2)
 |fail)
  refine bodyPost_ret (dS (rs := [.cell 4 30, .tmp 5]) rfl (by simp) (.cell gz 30 _ _ _ rfl (H.out.lD (g := gz) aQ) Tryz.underlying30 rfl info30 (.tmp .nil))) rfl ?_
  subst hOV
  exact ⟨none, 0, rfl, ⟨Sep.eX (Sep.dJ (Sep.drop1 (Sep.drop2 H.out)))⟩⟩
theorem KQ (A : Option Addr) (c : Nat) (L : Lg) (d : ByteArray) (w : World) (hr : Kd.C k67 w A L.l.length L.l) (hc : L.l.length ≤ c) (hG : Gl w) (h0 : 0 ≤ L.nx) (hn : L.nx < 18446744073709551616) :
  Calls Tryz.prog 31 #[.agg (lgc A c L).toArray, .string d] w fun e w' => ∃ A' c', e = .returned (.tuple #[.agg (lgc A' c' (bT L d).1).toArray, .int .i64 (bT L d).2])
   ∧ aC (Sep w w' [oO A' c' (bT L d).1.l]) := by
 obtain ⟨l, dn, fu, fa, size, fr, nx, br⟩ := L
 obtain ⟨n, hnn⟩ := Int.eq_ofNat_of_zero_le h0
 simp only at hnn
 subst hnn
 simp only at hn
 exact TA A c l dn fu fa size fr n br d w hr hc hG (by omega)
open Classical in
noncomputable def kH (L : Lg) (q : Int) : Lg × Int := if okL L then tN L q else (Lz, 6)
set_option maxHeartbeats 8000000 in
theorem qaz (A : Option Addr) (c : Nat) (l : List S67) (dn : Bool) (fu fa size fr : Int) (n : Nat) (br : Bool) (q : Int) (hq : 0 ≤ q) (w : World) (hr : Kd.C k67 w A l.length l) (hc : l.length ≤ c) (hG : Gl w) (hn : n < 18446744073709551616) :
  Calls Tryz.prog 34 #[.agg #[.slice A l.length c, .bool dn, .int .i64 fu, .int .i64 fa, .int .i64 size, .int .u64 fr, .int .u64 (n : Int), .bool br], .int .u64 q] w fun e w' => ∃ A' c', e = .returned (.tuple #[.agg (lgc A' c' (kH ⟨l, dn, fu, fa, size, fr, (n : Int), br⟩ q).1).toArray, .int .i64 (kH ⟨l, dn, fu, fa, size, fr, (n : Int), br⟩ q).2])
   ∧ aC (Sep w w' [oO A' c' (kH ⟨l, dn, fu, fa, size, fr, (n : Int), br⟩ q).1.l]) := by
 have HRp := aC.mk hr
 have HCp := aC.mk hc
 have HG := aC.mk hG
 clear hr hc hG
 obtain ⟨O, hO⟩ : ∃ O, O = kH ⟨l, dn, fu, fa, size, fr, (n : Int), br⟩ q := ⟨_, rfl⟩
 rw [← hO]
 have HO := aC.mk hO
 clear hO
 have H := aC.mk (Sep.start w)
 go_enter Tryz.func34, Tryz.ntmps34
 go_wp2_with (first
 |((with_reducible refine aV (N := 2) rfl ?_);
   refine bP rfl H (cs := [.slice A l.length c, .bool dn, .int .i64 fu, .int .i64 fa, .int .i64 size, .int .u64 fr, .int .u64 (n : Int), .bool br]) (t := 30) ?hr ?_;
   (case hr => first | (go_simp; done) | (go_simp; rfl));
   intro gm wd1 n_;
   simp only [Act.put, zA, zZ, zS];
   clear H;
   have H := n_;
   clear n_;
   have c_m := H.out.cell (g := gm) aQ)
 |((with_reducible refine aV (N := 3) rfl ?_);
   refine bP rfl H (cs := [.int .u64 q]) (t := 28) ?hr ?_;
   (case hr => first | (go_simp; done) | (go_simp; rfl));
   intro gt wd2 n_;
   simp only [Act.put, zA, zZ, zS];
   clear H c_m;
   have H := n_;
   clear n_;
   have c_t := H.out.cell (g := gt) aQ;
   have c_m := H.out.cell (g := gm) mem1)
 |((with_reducible refine aV (N := 4) rfl ?_);
   refine bP rfl H (cs := [.slice none 0 0, .bool false, .int .i64 0, .int .i64 0, .int .i64 0, .int .u64 0, .int .u64 0, .bool false]) (t := 30) ?hr ?_;
   (case hr => first | (go_simp; done) | (go_simp; rfl));
   intro gz wd3 n_;
   simp only [Act.put, zA, zZ, zS];
   clear H c_t c_m;
   have H := n_;
   clear n_;
   have c_z := H.out.cell (g := gz) aQ;
   have c_t := H.out.cell (g := gt) mem1;
   have c_m := H.out.cell (g := gm) mem2)
 |fail)
 by_cases hok : okL ⟨l, dn, fu, fa, size, fr, (n : Int), br⟩
 ·
  refine ((fZ.calls A c l dn fu fa size fr (n : Int) br 0 _ (H.out.came HRp.out) HCp.out (by have h := yJ ⟨l, dn, fu, fa, size, fr, (n : Int), br⟩; rw [if_pos hok] at h; exact h)).mono ?_)
  rintro e wd4 ⟨rfl, hb_⟩
  have n_ : aC (Sep w wd4 [box gz [.slice none 0 0, .bool false, .int .i64 0, .int .i64 0, .int .i64 0, .int .u64 0, .int .u64 0, .bool false] 30, box gt [.int .u64 q] 28, box gm [.slice A l.length c, .bool dn, .int .i64 fu, .int .i64 fa, .int .i64 size, .int .u64 fr, .int .u64 (n : Int), .bool br] 30]) := ⟨H.out.step hb_⟩
  clear H c_z c_t c_m
  have H := n_
  clear n_
  have c_z := H.out.cell (g := gz) aQ
  have c_t := H.out.cell (g := gt) mem1
  have c_m := H.out.cell (g := gm) mem2
  clear hb_
  have hlen : l.length ≤ 64 := lJ hok.1
  have hs1 : 1 ≤ size := hok.2.1
  have hs2 : size ≤ 262144 := hok.2.2.1
  have hok1 : bI l = true := hok.1
  have SY := aC.mk hok1
  have hOV : O = tN ⟨l, dn, fu, fa, size, fr, (n : Int), br⟩ q := by rw [HO.out, kH, if_pos hok]
  have HOV := aC.mk hOV
  clear hok hok1 HO hOV
  go_wp2_with fail
  refine ((OQ A c l dn fu fa _ (H.out.came HRp.out) hlen).mono ?_)
  rintro e wd5 ⟨A3, c3, rfl, HJ⟩
  have n_ : aC (Sep w wd5 [row k67 67 (.slice A3 (l).length c3) l, box gz [.slice none 0 0, .bool false, .int .i64 0, .int .i64 0, .int .i64 0, .int .u64 0, .int .u64 0, .bool false] 30, box gt [.int .u64 q] 28, box gm [.slice A l.length c, .bool dn, .int .i64 fu, .int .i64 fa, .int .i64 size, .int .u64 fr, .int .u64 (n : Int), .bool br] 30]) := ⟨gX H.out HJ.out⟩
  clear H c_z c_t c_m
  have H := n_
  clear n_
  have c_z := H.out.cell (g := gz) mem1
  have c_t := H.out.cell (g := gt) mem2
  have c_m := H.out.cell (g := gm) mem3
  have z_m := H.out.frozen (g := gm) mem3
  clear HJ
  go_wp2_with (first
 |((with_reducible refine aX (t := 27) (p := 14) rfl ?_);
   refine bM (rs1 := [row k67 67 (.slice A3 (l).length c3) l, box gz [.slice none 0 0, .bool false, .int .i64 0, .int .i64 0, .int .i64 0, .int .u64 0, .int .u64 0, .bool false] 30, box gt [.int .u64 q] 28, box gm [.slice A3 l.length c3, .bool dn, .int .i64 fu, .int .i64 fa, .int .i64 size, .int .u64 fr, .int .u64 (n : Int), .bool br] 30]) rfl (t := 27) (p := 14) rfl rfl ?hr (H1 := (Sep.eU (Sep.eU (Sep.eU (Sep.eU H.out 0 (.slice A3 l.length c3) rfl) 1 (.bool dn) rfl) 2 (.int .i64 fu) rfl) 3 (.int .i64 fa) rfl)) ?_;
   (case hr => first | (go_simp; done) | (go_simp; rfl));
   intro wd6 n_;
   clear H c_z c_t c_m z_m;
   have H := n_;
   clear n_;
   have c_z := H.out.cell (g := gz) mem1;
   have c_t := H.out.cell (g := gt) mem2;
   have c_m := H.out.cell (g := gm) mem3;
   have z_m := H.out.frozen (g := gm) mem3)
 |((with_reducible refine aV (N := 17) rfl ?_);
   refine bP rfl H (cs := [.slice A3 l.length c3, .bool dn, .int .i64 fu, .int .i64 fa, .int .i64 size, .int .u64 fr, .int .u64 (n : Int), .bool br]) (t := 134) ?hr ?_;
   (case hr => first | (go_simp; done) | (go_simp; rfl));
   intro gl wd7 n_;
   simp only [Act.put, zA, zZ, zS];
   clear H c_z c_t c_m z_m;
   have H := n_;
   clear n_;
   have c_l := H.out.cell (g := gl) aQ;
   have c_z := H.out.cell (g := gz) mem2;
   have c_t := H.out.cell (g := gt) mem3;
   have c_m := H.out.cell (g := gm) dM;
   have z_m := H.out.frozen (g := gm) dM)
 |((with_reducible refine aV (N := 6) rfl ?_);
   refine bP rfl H (cs := [.pointer none]) (t := 131) ?hr ?_;
   (case hr => first | (go_simp; done) | (go_simp; rfl));
   intro gv wd8 n_;
   simp only [Act.put, zA, zZ, zS];
   clear H c_l c_z c_t c_m z_m;
   have H := n_;
   clear n_;
   have c_v := H.out.cell (g := gv) aQ;
   have z_v := H.out.frozen (g := gv) aQ;
   have c_l := H.out.cell (g := gl) mem1;
   have c_z := H.out.cell (g := gz) mem3;
   have c_t := H.out.cell (g := gt) dM;
   have c_m := H.out.cell (g := gm) eF;
   have z_m := H.out.frozen (g := gm) eF)
 |((with_reducible refine aX (t := 131) (p := 6) rfl ?_);
   refine bM (rs1 := [box gv [.pointer (some ⟨gl, 0, none⟩)] 131, box gl [.slice A3 l.length c3, .bool dn, .int .i64 fu, .int .i64 fa, .int .i64 size, .int .u64 fr, .int .u64 (n : Int), .bool br] 134, row k67 67 (.slice A3 (l).length c3) l, box gz [.slice none 0 0, .bool false, .int .i64 0, .int .i64 0, .int .i64 0, .int .u64 0, .int .u64 0, .bool false] 30, box gt [.int .u64 q] 28, box gm [.slice A3 l.length c3, .bool dn, .int .i64 fu, .int .i64 fa, .int .i64 size, .int .u64 fr, .int .u64 (n : Int), .bool br] 30]) rfl (t := 131) (p := 6) rfl rfl ?hr (H1 := (Sep.set0 H.out 0 (.pointer (some ⟨gl, 0, none⟩)) rfl)) ?_;
   (case hr => first | (go_simp; done) | (go_simp; rfl));
   intro wd9 n_;
   clear H c_v z_v c_l c_z c_t c_m z_m;
   have H := n_;
   clear n_;
   have c_v := H.out.cell (g := gv) aQ;
   have z_v := H.out.frozen (g := gv) aQ;
   have c_l := H.out.cell (g := gl) mem1;
   have c_z := H.out.cell (g := gz) mem3;
   have c_t := H.out.cell (g := gt) dM;
   have c_m := H.out.cell (g := gm) eF;
   have z_m := H.out.frozen (g := gm) eF)
 |fail)
  have hdo := yD (qc8 w gl gm gt gv l dn fu fa size fr n br q A3 c3 SY.out (HG.out) hn hq) [box gz [.slice none 0 0, .bool false, .int .i64 0, .int .i64 0, .int .i64 0, .int .u64 0, .int .u64 0, .bool false] 30]
  rw [← HOV.out] at hdo
  refine (AZ hdo (fun args w => by simp [go_sem]) A3 c3 _ ⟨(Sep.sW (Sep.sW (Sep.sW (Sep.iL (Sep.jK (Sep.jQ H.out))))))⟩).mono ?_
  rintro e FN ⟨A4, c4, rfl, H2⟩
  clear hdo
  have n_ : aC (Sep w FN [box gl [.slice A4 O.1.l.length c4, .bool O.1.dn, .int .i64 O.1.fu, .int .i64 O.1.fa, .int .i64 O.1.size, .int .u64 O.1.fr, .int .u64 O.1.nx, .bool O.1.br] 134, row k67 67 (.slice A4 (O.1.l).length c4) O.1.l, box gm [.slice A3 l.length c3, .bool dn, .int .i64 fu, .int .i64 fa, .int .i64 size, .int .u64 fr, .int .u64 (n : Int), .bool br] 30, box gt [.int .u64 q] 28, box gv [.pointer (some ⟨gl, 0, none⟩)] 131, box gz [.slice none 0 0, .bool false, .int .i64 0, .int .i64 0, .int .i64 0, .int .u64 0, .int .u64 0, .bool false] 30]) := ⟨H2.out⟩
  clear H c_v z_v c_l c_z c_t c_m z_m
  have H := n_
  clear n_
  have c_l := H.out.cell (g := gl) aQ
  have c_m := H.out.cell (g := gm) mem2
  have c_t := H.out.cell (g := gt) mem3
  have c_v := H.out.cell (g := gv) dM
  have c_z := H.out.cell (g := gz) eF
  have z_z := H.out.frozen (g := gz) eF
  clear H2
  simp only [lgc]
  go_wp2_with (first
 |((with_reducible refine aX (t := 30) (p := 4) rfl ?_);
   refine bM (rs1 := [box gl [.slice A4 O.1.l.length c4, .bool O.1.dn, .int .i64 O.1.fu, .int .i64 O.1.fa, .int .i64 O.1.size, .int .u64 O.1.fr, .int .u64 O.1.nx, .bool O.1.br] 134, row k67 67 (.slice A4 (O.1.l).length c4) O.1.l, box gm [.slice A3 l.length c3, .bool dn, .int .i64 fu, .int .i64 fa, .int .i64 size, .int .u64 fr, .int .u64 (n : Int), .bool br] 30, box gt [.int .u64 q] 28, box gv [.pointer (some ⟨gl, 0, none⟩)] 131, box gz [.slice A4 O.1.l.length c4, .bool O.1.dn, .int .i64 O.1.fu, .int .i64 O.1.fa, .int .i64 O.1.size, .int .u64 O.1.fr, .int .u64 O.1.nx, .bool O.1.br] 30]) rfl (t := 30) (p := 4) rfl rfl ?hr (H1 := (Sep.iJ (Sep.iJ (Sep.iJ (Sep.iJ (Sep.iJ (Sep.iJ (Sep.iJ (Sep.iJ H.out 0 (.slice A4 O.1.l.length c4) rfl) 1 (.bool O.1.dn) rfl) 2 (.int .i64 O.1.fu) rfl) 3 (.int .i64 O.1.fa) rfl) 4 (.int .i64 O.1.size) rfl) 5 (.int .u64 O.1.fr) rfl) 6 (.int .u64 O.1.nx) rfl) 7 (.bool O.1.br) rfl)) ?_;
   (case hr => first | (go_simp; done) | (go_simp; rfl));
   intro OU n_;
   clear H c_l c_m c_t c_v c_z z_z;
   have H := n_;
   clear n_;
   have c_l := H.out.cell (g := gl) aQ;
   have c_m := H.out.cell (g := gm) mem2;
   have c_t := H.out.cell (g := gt) mem3;
   have c_v := H.out.cell (g := gv) dM;
   have c_z := H.out.cell (g := gz) eF;
   have z_z := H.out.frozen (g := gz) eF)
 |fail)
  refine bodyPost_ret (dS (rs := [.cell 4 30, .tmp 5]) rfl (by simp) (.cell gz 30 _ _ _ rfl (H.out.lD (g := gz) eF) Tryz.underlying30 rfl info30 (.tmp .nil))) rfl ?_
  exact ⟨A4, c4, rfl, ⟨(Sep.dJ (Sep.drop2 (Sep.jU (Sep.oK (Sep.xQ H.out)))))⟩⟩
 ·
  refine ((fZ.calls A c l dn fu fa size fr (n : Int) br 6 _ (H.out.came HRp.out) HCp.out (by have h := yJ ⟨l, dn, fu, fa, size, fr, (n : Int), br⟩; rw [if_neg hok] at h; exact h)).mono ?_)
  rintro e FP ⟨rfl, hb_⟩
  have n_ : aC (Sep w FP [box gz [.slice none 0 0, .bool false, .int .i64 0, .int .i64 0, .int .i64 0, .int .u64 0, .int .u64 0, .bool false] 30, box gt [.int .u64 q] 28, box gm [.slice A l.length c, .bool dn, .int .i64 fu, .int .i64 fa, .int .i64 size, .int .u64 fr, .int .u64 (n : Int), .bool br] 30]) := ⟨H.out.step hb_⟩
  clear H c_z c_t c_m
  have H := n_
  clear n_
  have c_z := H.out.cell (g := gz) aQ
  have c_t := H.out.cell (g := gt) mem1
  have c_m := H.out.cell (g := gm) mem2
  clear hb_
  have hOV : O = (Lz, 6) := by rw [HO.out, kH, if_neg hok]
  clear HO hok
  clear c_z c_t c_m
  have c_z := H.out.cell (g := gz) aQ
  have z_z := H.out.frozen (g := gz) aQ
  have c_t := H.out.cell (g := gt) mem1
  have c_m := H.out.cell (g := gm) mem2
  go_wp2_with (first
 |((with_reducible refine aX (t := 30) (p := 4) rfl ?_);
   refine bM (rs1 := [box gz [.slice none 0 0, .bool false, .int .i64 0, .int .i64 0, .int .i64 0, .int .u64 0, .int .u64 0, .bool false] 30, box gt [.int .u64 q] 28, box gm [.slice A l.length c, .bool dn, .int .i64 fu, .int .i64 fa, .int .i64 size, .int .u64 fr, .int .u64 (n : Int), .bool br] 30]) rfl (t := 30) (p := 4) rfl rfl ?hr (H1 := (Sep.set0 (Sep.set0 (Sep.set0 (Sep.set0 (Sep.set0 (Sep.set0 (Sep.set0 (Sep.set0 H.out 0 (.slice none 0 0) rfl) 1 (.bool false) rfl) 2 (.int .i64 0) rfl) 3 (.int .i64 0) rfl) 4 (.int .i64 0) rfl) 5 (.int .u64 0) rfl) 6 (.int .u64 0) rfl) 7 (.bool false) rfl)) ?_;
   (case hr => first | (go_simp; done) | (go_simp; rfl));
   intro SX n_;
   clear H c_z z_z c_t c_m;
   have H := n_;
   clear n_;
   have c_z := H.out.cell (g := gz) aQ;
   have z_z := H.out.frozen (g := gz) aQ;
   have c_t := H.out.cell (g := gt) mem1;
   have c_m := H.out.cell (g := gm) mem2)
 |fail)
  refine bodyPost_ret (dS (rs := [.cell 4 30, .tmp 5]) rfl (by simp) (.cell gz 30 _ _ _ rfl (H.out.lD (g := gz) aQ) Tryz.underlying30 rfl info30 (.tmp .nil))) rfl ?_
  subst hOV
  exact ⟨none, 0, rfl, ⟨Sep.eX (Sep.dJ (Sep.drop1 (Sep.drop2 H.out)))⟩⟩
theorem TB (A : Option Addr) (c : Nat) (L : Lg) (q : Int) (hq : 0 ≤ q) (w : World) (hr : Kd.C k67 w A L.l.length L.l) (hc : L.l.length ≤ c) (hG : Gl w) (h0 : 0 ≤ L.nx) (hn : L.nx < 18446744073709551616) :
  Calls Tryz.prog 34 #[.agg (lgc A c L).toArray, .int .u64 q] w fun e w' => ∃ A' c', e = .returned (.tuple #[.agg (lgc A' c' (kH L q).1).toArray, .int .i64 (kH L q).2])
   ∧ aC (Sep w w' [oO A' c' (kH L q).1.l]) := by
 obtain ⟨l, dn, fu, fa, size, fr, nx, br⟩ := L
 obtain ⟨n, hnn⟩ := Int.eq_ofNat_of_zero_le h0
 simp only at hnn
 subst hnn
 simp only at hn
 exact qaz A c l dn fu fa size fr n br q hq w hr hc hG (by omega)
open Classical in
noncomputable def TD (L : Lg) : List S62 × Int := if okL L then (if L.br = true then ([], 6) else if L.dn = true then ([], 17) else (bU (findF L.l).recs (dP (aN L.l)), 0)) else ([], 6)
structure Qu where
 L : Lg
 es : List S41
 most : Int
def qc (A : Option Addr) (c : Nat) (B : Option Addr) (d : Nat) (Q : Qu) : List Value := lgc A c Q.L ++ [.slice B Q.es.length d, .int .i64 Q.most]
abbrev uG (B : Option Addr) (d : Nat) (l : List S41) : Res := row k41 41 (.slice B l.length d) l
theorem qaA {W : World} {base : Nat} {ok1 ok2 : Nat → Prop} {x : S41} {cs : List Value} (h : k41.M W 0 ok1 x cs) : k41.M W base ok2 x cs := by
 obtain rfl := MN h
 exact I8 _ _ _ _
theorem yK : Flat k41 := qaA
theorem info33 : (Tryz.prog.info? 33).map (fun i => i.size) = some 10 := by kernel_rfl
theorem qdm : (Tryz.prog.info? 41).map (fun i => i.size) = some 3 := by kernel_rfl
theorem sN (n : Int) (w : World) : Calls Tryz.prog 54 #[.bool true, .int .i64 n] w fun e w' => e = .returned (.tuple #[]) ∧ w' = w := by
 go_enter Tryz.func54, Tryz.ntmps54
 go_wp2
 go_end0
 exact ⟨rfl, rfl⟩
theorem vP (n : Int) (w : World) : Calls Tryz.prog 54 #[.bool false, .int .i64 n] w fun e w' => e = .panicked [{ v := .iface 34 (.int .i64 n), recovered := false }] ∧ w' = w := by
 go_enter Tryz.func54, Tryz.ntmps54
 go_wp2
 exact ⟨rfl, rfl, rfl⟩
set_option maxHeartbeats 4000000 in
theorem qev {b w : World} {rs : List Res} (gl : Nat) (A : Option Addr) (c : Nat) (B : Option Addr) (d : Nat) (Q : Qu) (A1 : Option Addr) (c1 : Nat) (L1 : Lg) (H0 : aC (Sep b w (box gl (qc A c B d Q) 101 :: rs))) :
  Calls Tryz.prog 55 #[.pointer (some ⟨gl, 0, none⟩), .agg (lgc A1 c1 L1).toArray, .int .i64 0] w fun e w' => e = .returned (.tuple #[]) ∧ aC (Sep b w' (box gl (qc A1 c1 B d ⟨L1, Q.es, Q.most⟩) 101 :: rs)) := by
 have H : aC (Sep b w (box gl [.slice A Q.L.l.length c, .bool Q.L.dn, .int .i64 Q.L.fu, .int .i64 Q.L.fa, .int .i64 Q.L.size, .int .u64 Q.L.fr, .int .u64 Q.L.nx, .bool Q.L.br, .slice B Q.es.length d, .int .i64 Q.most] 101 :: rs)) := H0
 clear H0
 simp only [lgc]
 have c_l := H.out.cell (g := gl) aQ
 have z_l := H.out.frozen (g := gl) aQ
 go_enter Tryz.func55, Tryz.ntmps55
 go_wp2_with (first
 |((with_reducible refine aV (N := 4) rfl ?_);
   refine bP rfl H (cs := [.slice A1 L1.l.length c1, .bool L1.dn, .int .i64 L1.fu, .int .i64 L1.fa, .int .i64 L1.size, .int .u64 L1.fr, .int .u64 L1.nx, .bool L1.br]) (t := 30) ?hr ?_;
   (case hr => first | (go_simp; done) | (go_simp; rfl));
   intro gd wd1 n_;
   simp only [Act.put, zA, zZ, zS];
   clear H c_l z_l;
   have H := n_;
   clear n_;
   have c_d := H.out.cell (g := gd) aQ;
   have z_d := H.out.frozen (g := gd) aQ;
   have c_l := H.out.cell (g := gl) mem1;
   have z_l := H.out.frozen (g := gl) mem1)
 |((with_reducible refine aX (t := 30) (p := 10) rfl ?_);
   refine bM (rs1 := (box gd [.slice A1 L1.l.length c1, .bool L1.dn, .int .i64 L1.fu, .int .i64 L1.fa, .int .i64 L1.size, .int .u64 L1.fr, .int .u64 L1.nx, .bool L1.br] 30 :: box gl [.slice A1 L1.l.length c1, .bool L1.dn, .int .i64 L1.fu, .int .i64 L1.fa, .int .i64 L1.size, .int .u64 L1.fr, .int .u64 L1.nx, .bool L1.br, .slice B Q.es.length d, .int .i64 Q.most] 101 :: rs)) rfl (t := 30) (p := 10) rfl rfl ?hr (H1 := (Sep.set1 (Sep.set1 (Sep.set1 (Sep.set1 (Sep.set1 (Sep.set1 (Sep.set1 (Sep.set1 H.out 0 (.slice A1 L1.l.length c1) rfl) 1 (.bool L1.dn) rfl) 2 (.int .i64 L1.fu) rfl) 3 (.int .i64 L1.fa) rfl) 4 (.int .i64 L1.size) rfl) 5 (.int .u64 L1.fr) rfl) 6 (.int .u64 L1.nx) rfl) 7 (.bool L1.br) rfl)) ?_;
   (case hr => first | (go_simp; done) | (go_simp; rfl));
   intro wd2 n_;
   clear H c_d z_d c_l z_l;
   have H := n_;
   clear n_;
   have c_d := H.out.cell (g := gd) aQ;
   have z_d := H.out.frozen (g := gd) aQ;
   have c_l := H.out.cell (g := gl) mem1;
   have z_l := H.out.frozen (g := gl) mem1)
 |fail)
 refine (sN 0 _).mono ?_
 rintro e w_ ⟨rfl, rfl⟩
 go_wp2_with fail
 go_end0
 exact ⟨rfl, ⟨(Sep.dJ H.out)⟩⟩
set_option maxHeartbeats 4000000 in
theorem qew {b w : World} {rs : List Res} (gl : Nat) (A : Option Addr) (c : Nat) (B : Option Addr) (d : Nat) (Q : Qu) (A1 : Option Addr) (c1 : Nat) (L1 : Lg) (n : Int) (hn : n ≠ 0) (H0 : aC (Sep b w (box gl (qc A c B d Q) 101 :: rs))) :
  Calls Tryz.prog 55 #[.pointer (some ⟨gl, 0, none⟩), .agg (lgc A1 c1 L1).toArray, .int .i64 n] w fun e w' => e = .panicked [{ v := .iface 34 (.int .i64 n), recovered := false }] ∧ aC (Sep b w' (box gl (qc A1 c1 B d ⟨L1, Q.es, Q.most⟩) 101 :: rs)) := by
 have H : aC (Sep b w (box gl [.slice A Q.L.l.length c, .bool Q.L.dn, .int .i64 Q.L.fu, .int .i64 Q.L.fa, .int .i64 Q.L.size, .int .u64 Q.L.fr, .int .u64 Q.L.nx, .bool Q.L.br, .slice B Q.es.length d, .int .i64 Q.most] 101 :: rs)) := H0
 clear H0
 simp only [lgc]
 have c_l := H.out.cell (g := gl) aQ
 have z_l := H.out.frozen (g := gl) aQ
 go_enter Tryz.func55, Tryz.ntmps55
 have hnb : (n == 0) = false := by simpa using hn
 go_wp2_with (first
 |((with_reducible refine aV (N := 4) rfl ?_);
   refine bP rfl H (cs := [.slice A1 L1.l.length c1, .bool L1.dn, .int .i64 L1.fu, .int .i64 L1.fa, .int .i64 L1.size, .int .u64 L1.fr, .int .u64 L1.nx, .bool L1.br]) (t := 30) ?hr ?_;
   (case hr => first | (go_simp; done) | (go_simp; rfl));
   intro gd wd3 n_;
   simp only [Act.put, zA, zZ, zS];
   clear H c_l z_l;
   have H := n_;
   clear n_;
   have c_d := H.out.cell (g := gd) aQ;
   have z_d := H.out.frozen (g := gd) aQ;
   have c_l := H.out.cell (g := gl) mem1;
   have z_l := H.out.frozen (g := gl) mem1)
 |((with_reducible refine aX (t := 30) (p := 10) rfl ?_);
   refine bM (rs1 := (box gd [.slice A1 L1.l.length c1, .bool L1.dn, .int .i64 L1.fu, .int .i64 L1.fa, .int .i64 L1.size, .int .u64 L1.fr, .int .u64 L1.nx, .bool L1.br] 30 :: box gl [.slice A1 L1.l.length c1, .bool L1.dn, .int .i64 L1.fu, .int .i64 L1.fa, .int .i64 L1.size, .int .u64 L1.fr, .int .u64 L1.nx, .bool L1.br, .slice B Q.es.length d, .int .i64 Q.most] 101 :: rs)) rfl (t := 30) (p := 10) rfl rfl ?hr (H1 := (Sep.set1 (Sep.set1 (Sep.set1 (Sep.set1 (Sep.set1 (Sep.set1 (Sep.set1 (Sep.set1 H.out 0 (.slice A1 L1.l.length c1) rfl) 1 (.bool L1.dn) rfl) 2 (.int .i64 L1.fu) rfl) 3 (.int .i64 L1.fa) rfl) 4 (.int .i64 L1.size) rfl) 5 (.int .u64 L1.fr) rfl) 6 (.int .u64 L1.nx) rfl) 7 (.bool L1.br) rfl)) ?_;
   (case hr => first | (go_simp; done) | (go_simp; rfl));
   intro wd4 n_;
   clear H c_d z_d c_l z_l;
   have H := n_;
   clear n_;
   have c_d := H.out.cell (g := gd) aQ;
   have z_d := H.out.frozen (g := gd) aQ;
   have c_l := H.out.cell (g := gl) mem1;
   have z_l := H.out.frozen (g := gl) mem1)
 |fail)
 refine (vP n _).mono ?_
 rintro e w_ ⟨rfl, rfl⟩
 exact ⟨rfl, rfl, ⟨(Sep.dJ H.out)⟩⟩
theorem log_any {b w : World} {rs : List Res} (gl : Nat) (A : Option Addr) (c : Nat) (B : Option Addr) (d : Nat) (Q : Qu) (A1 : Option Addr) (c1 : Nat) (L1 : Lg) (n : Int) (H0 : aC (Sep b w (box gl (qc A c B d Q) 101 :: rs))) :
  Calls Tryz.prog 55 #[.pointer (some ⟨gl, 0, none⟩), .agg (lgc A1 c1 L1).toArray, .int .i64 n] w fun e w' => Ends n e ∧ aC (Sep b w' (box gl (qc A1 c1 B d ⟨L1, Q.es, Q.most⟩) 101 :: rs)) := by
 by_cases hn : n = 0
 ·subst hn
  exact (qev gl A c B d Q A1 c1 L1 H0).mono fun e w' h => ⟨.inl ⟨rfl, h.1⟩, h.2⟩
 ·exact (qew gl A c B d Q A1 c1 L1 n hn H0).mono fun e w' h => ⟨.inr ⟨hn, h.1⟩, h.2⟩
end Go.Proofs.U
