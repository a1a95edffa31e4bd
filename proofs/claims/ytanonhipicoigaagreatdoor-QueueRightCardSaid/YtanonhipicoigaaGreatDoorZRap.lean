import Derived.Test.YtanonhipicoigaaGreatDoorZRai
import Derived.Test.YtanonhipicoigaaGreatDoorZRao
import Derived.Test.YtanonhipicoigaaGreatDoorZRag
set_option linter.unusedVariables false
set_option linter.unusedSimpArgs false
set_option maxRecDepth 100000
namespace Go.Proofs.U
open Go.RowKit Go.Proofs.aA.aK Go.Proofs.aA.aW Go.Proofs.aA.aX
attribute [local go_sem] iD iG jB jJ gU gV iP iQ
mutual
def bP.j0 : Nat → Bool → List (S67) → Bool → Int → Int → Int → Int → Int → Bool → List (S41) → Int → Option (Int)
 | 0, _, _, _, _, _, _, _, _, _, _, _ => none
 | k + 1, x3, yA, yB, yC, yD, yE, vN, vO, yF, sZ, yG => bP.l0 k x3 vN sZ (sZ.length : Int) 0 yA yB yC yD yE vN vO yF sZ yG
def bP.l0 : Nat → Bool → Int → List (S41) → Int → Int → List (S67) → Bool → Int → Int → Int → Int → Int → Bool → List (S41) → Int → Option (Int)
 | 0, _, _, _, _, _, _, _, _, _, _, _, _, _, _, _ => none
 | k + 1, x3, x4, x29, x30, x31, yA, yB, yC, yD, yE, vN, vO, yF, sZ, yG => if x31 < x30 then (if 0 ≤ x31 then (if x31 < (x29.length : Int) then (if x3 = true then (if (((dN x29 x31).f1).size : Int) < 65536 then (if ((dN x29 x31).f0) ≥ x4 then (bP.l0 k (decide (((dN x29 x31).f0) < vO)) (IntKind.u64.wrap (((dN x29 x31).f0) + 1)) x29 x30 (wrap64 (x31 + 1)) yA yB yC yD yE vN vO yF sZ yG) else (bP.l0 k false (IntKind.u64.wrap (((dN x29 x31).f0) + 1)) x29 x30 (wrap64 (x31 + 1)) yA yB yC yD yE vN vO yF sZ yG)) else (bP.l0 k false (IntKind.u64.wrap (((dN x29 x31).f0) + 1)) x29 x30 (wrap64 (x31 + 1)) yA yB yC yD yE vN vO yF sZ yG)) else (bP.l0 k false (IntKind.u64.wrap (((dN x29 x31).f0) + 1)) x29 x30 (wrap64 (x31 + 1)) yA yB yC yD yE vN vO yF sZ yG)) else (none)) else (none)) else (if x3 = true then (some 0) else (some 6))
end
def bP.f (k : Nat) (bJ : List (S67)) (cZ : Bool) (dA : Int) (dB : Int) (eP : Int) (eX : Int) (eF : Int) (fD : Bool) (eH : List (S41)) (iH : Int) : Option (Int) := (fH.f bJ cZ dA dB eP eX eF fD).bind fun t196 => (if t196 = 0 then (if iH ≥ 1 then (bP.j0 k (decide ((mx iH (eH.length : Int)) ≤ 1024)) bJ cZ dA dB eP eX eF fD eH iH) else (bP.j0 k false bJ cZ dA dB eP eX eF fD eH iH)) else (bP.j0 k false bJ cZ dA dB eP eX eF fD eH iH))
set_option maxHeartbeats 8000000 in
theorem bP.calls (k : Nat) (dQ : Option Addr) (dR : Nat) (bJ : List (S67)) (cZ : Bool) (dA : Int) (dB : Int) (eP : Int) (eX : Int) (eF : Int) (fD : Bool) (DC : Option Addr) (pX : Nat) (eH : List (S41)) (iH : Int) (r : Int) (w : World) (jY : Kd.C k67 w dQ bJ.length bJ) (lX : bJ.length ≤ dR) (qc7 : Kd.C k41 w DC eH.length eH) (qc8 : eH.length ≤ pX) (h : bP.f k bJ cZ dA dB eP eX eF fD eH iH = some r) :
    Calls Tryz.prog 39 #[.agg #[.slice dQ bJ.length dR, .bool cZ, .int .i64 dA, .int .i64 dB, .int .i64 eP, .int .u64 eX, .int .u64 eF, .bool fD, .slice DC eH.length pX, .int .i64 iH]] w fun e w' => e = .returned (.int .i64 r) ∧ Below w.heap.size w w' := by
  have qit := Tryz.underlying33
  have qhh := Tryz.underlying30
  have qhA := Tryz.underlying41
  have yP := aC.mk jY
  have yQ := aC.mk lX
  clear jY lX
  have WL := aC.mk qc7
  have qh5 := aC.mk qc8
  clear qc7 qc8
  have HB := aC.mk (Below.refl w.heap.size w)
  have H : ((fH.f bJ cZ dA dB eP eX eF fD).bind fun t196 => (if t196 = 0 then (if iH ≥ 1 then (bP.j0 k (decide ((mx iH (eH.length : Int)) ≤ 1024)) bJ cZ dA dB eP eX eF fD eH iH) else (bP.j0 k false bJ cZ dA dB eP eX eF fD eH iH)) else (bP.j0 k false bJ cZ dA dB eP eX eF fD eH iH))) = some r := h
  clear h
  have HC2 := aC.mk H
  clear H
  go_enter Tryz.func39, Tryz.ntmps39
  go_upto_region 1 with (first | ((with_reducible refine aU (N := 1) rfl ?_); (try (refine rW (by rfl) ?_; dsimp only)); refine dL ?hg (N := 1) ?hd (cs := #[.slice dQ bJ.length dR, .bool cZ, .int .i64 dA, .int .i64 dB, .int .i64 eP, .int .u64 eX, .int .u64 eF, .bool fD, .slice DC eH.length pX, .int .i64 iH]) (t := 33) ?hr ?_; (case hd => rfl); (case hg => rfl); (case hr => first | (go_simp; done) | (go_simp; rfl)); intro dD hg w3 hbox hb; have n0_ := aC.mk (bF (by repeat (first | (with_reducible first | exact HB.out | apply aQ | apply aT | apply aZ) | exact HB.out)) hb); have n1_ := aC.mk (hbox); have n2_ := aC.mk ((by rw [hg]; exact (dU (by repeat (first | (with_reducible first | exact HB.out | apply aQ | apply aT | apply aZ) | exact HB.out))) : w.heap.size ≤ dD)); have n3_ := aC.mk ((by rw [hg]; exact (dU (by repeat (first | (with_reducible first | exact HB.out | apply aQ | apply aT | apply aZ) | exact HB.out))) : w.heap.size ≤ dD)); clear HB; have HB := n0_; have bD := n1_; have qh6 := n2_; have kS := n3_; clear n0_ n1_ n2_ n3_; clear hb hbox hg))
  (try simp only [Act.put, zA, zZ, zS])
  go_cut [3] (fun v3 wc => ∃ (kq : Nat) (qcA : Bool), v3 = .bool qcA ∧ aC (bP.j0 kq qcA bJ cZ dA dB eP eX eF fD eH iH = some r) ∧ aC (kq ≤ k) ∧ aC (wc.heap[dD]? = some (.cells #[(.slice dQ bJ.length dR), .bool cZ, .int .i64 dA, .int .i64 dB, .int .i64 eP, .int .u64 eX, .int .u64 eF, .bool fD, (.slice DC eH.length pX), .int .i64 iH] 33 (0, 0))) ∧ aC (Below w.heap.size w wc))
  case first =>
    have H := HC2.out
    clear HC2
    replace H := Option.bind_eq_some_iff.mp H
    obtain ⟨t196, A40, H⟩ := H
    replace H : (if t196 = 0 then (if iH ≥ 1 then (bP.j0 k (decide ((mx iH (eH.length : Int)) ≤ 1024)) bJ cZ dA dB eP eX eF fD eH iH) else (bP.j0 k false bJ cZ dA dB eP eX eF fD eH iH)) else (bP.j0 k false bJ cZ dA dB eP eX eF fD eH iH)) = some r := H
    have A4 := aC.mk A40
    clear A40
    by_cases c5 : t196 = 0
    · rw [if_pos c5] at H
      have RI : (t196 == 0) = true := beq_iff_eq.mpr c5
      have qdO : (t196 != 0) = false := bne_eq_false_iff_eq.mpr c5
      clear c5
      (first | rw [RI] | (simp only [aI, aJ]; rw [RI]) | skip)
      by_cases c6 : iH ≥ 1
      · rw [if_pos c6] at H
        have qcB : decide (1 ≤ iH) = true := decide_eq_true c6
        clear c6
        obtain ⟨ji7, ZT⟩ : ∃ j_ : Int, (mx iH (eH.length : Int)) = j_ := ⟨_, rfl⟩
        replace H : (bP.j0 k (decide ((ji7) ≤ 1024)) bJ cZ dA dB eP eX eF fD eH iH) = some r := by first | (rw [ZT] at H; exact H) | (simp only [ZT] at H ⊢; exact H)
        (try rw [ZT] at A4)
        (try (have qh7 : 0 ≤ ji7 := by (rw [← ZT]; unfold mx; (repeat' split) <;> omega)))
        (try (have qh8 : 0 ≤ ji7 := by omega))
        have qh9 : (if iH < (eH.length : Int) then (eH.length : Int) else iH) = ji7 := ZT
        have H' := aC.mk H
        clear H
        have TU : w3.cell? ⟨dD, 0, none⟩ = some (.slice dQ bJ.length dR) := (aH bD.out 0).trans rfl
        have TV : w3.cell? ⟨dD, 1, none⟩ = some (.bool cZ) := (aH bD.out 1).trans rfl
        have TW : w3.cell? ⟨dD, 2, none⟩ = some (.int .i64 dA) := (aH bD.out 2).trans rfl
        have TY : w3.cell? ⟨dD, 3, none⟩ = some (.int .i64 dB) := (aH bD.out 3).trans rfl
        have UA : w3.cell? ⟨dD, 4, none⟩ = some (.int .i64 eP) := (aH bD.out 4).trans rfl
        have UC : w3.cell? ⟨dD, 5, none⟩ = some (.int .u64 eX) := (aH bD.out 5).trans rfl
        have UD : w3.cell? ⟨dD, 6, none⟩ = some (.int .u64 eF) := (aH bD.out 6).trans rfl
        have UF : w3.cell? ⟨dD, 7, none⟩ = some (.bool fD) := (aH bD.out 7).trans rfl
        have qbf : w3.cell? ⟨dD, 8, none⟩ = some (.slice DC eH.length pX) := (aH bD.out 8).trans rfl
        have qbg : w3.cell? ⟨dD, 9, none⟩ = some (.int .i64 iH) := (aH bD.out 9).trans rfl
        have UG := aG bD.out 0
        have UH := aG bD.out 1
        have UJ := aG bD.out 2
        have UK := aG bD.out 3
        have UL := aG bD.out 4
        have UM := aG bD.out 5
        have UN := aG bD.out 6
        have UO := aG bD.out 7
        have qbh := aG bD.out 8
        have qbi := aG bD.out 9
        go_wp2_with (first | ((with_reducible refine jP (f := 33) rfl ?_); refine uZ (some 9) rfl rfl Tryz.func33 (by kernel_rfl) rfl #[.agg #[.slice dQ bJ.length dR, .bool cZ, .int .i64 dA, .int .i64 dB, .int .i64 eP, .int .u64 eX, .int .u64 eF, .bool fD]] rfl (by (try simp only [List.map_toArray, List.map_cons, List.map_nil]); first | done | rfl | (simp only [List.length_drop, List.length_take]; rfl)) ?_; (with_reducible refine (fH.calls _ _ bJ cZ dA dB eP eX eF fD t196 _ ?qQ ?qR A4.out).mono ?_); (case qQ => repeat (first | exact (Kd.fK yP.out HB.out) | (with_reducible refine Kd.rC ?_ _) | (with_reducible refine Kd.rD ?_ _) | (with_reducible refine Kd.uY ?_))); (case qR => exact yQ.out); rintro e w9 ⟨rfl, hb⟩; refine ⟨_, rfl, ?_⟩; have n0_ := aC.mk (bG (g := dD) (o := .cells #[.slice dQ bJ.length dR, .bool cZ, .int .i64 dA, .int .i64 dB, .int .i64 eP, .int .u64 eX, .int .u64 eF, .bool fD, .slice DC eH.length pX, .int .i64 iH] 33 (0, 0)) (by (with_reducible repeat (first | refine bY ?_ _ | refine bQ ?_ | refine bC ?_ _)); exact bD.out) hb); have n1_ := aC.mk (bF (by repeat (first | (with_reducible first | exact HB.out | apply aQ | apply aT | apply aZ | refine bM ?_ kS.out) | exact HB.out)) hb); clear bD; clear HB; have bD := n0_; have HB := n1_; clear n0_ n1_; (try clear hb); (try clear hb2); (try clear hk); (try clear hi); have WM : w9.cell? ⟨dD, 0, none⟩ = some (.slice dQ bJ.length dR) := (aH bD.out 0).trans rfl; have WO : w9.cell? ⟨dD, 1, none⟩ = some (.bool cZ) := (aH bD.out 1).trans rfl; have WQ : w9.cell? ⟨dD, 2, none⟩ = some (.int .i64 dA) := (aH bD.out 2).trans rfl; have WR : w9.cell? ⟨dD, 3, none⟩ = some (.int .i64 dB) := (aH bD.out 3).trans rfl; have WS : w9.cell? ⟨dD, 4, none⟩ = some (.int .i64 eP) := (aH bD.out 4).trans rfl; have WT : w9.cell? ⟨dD, 5, none⟩ = some (.int .u64 eX) := (aH bD.out 5).trans rfl; have WU : w9.cell? ⟨dD, 6, none⟩ = some (.int .u64 eF) := (aH bD.out 6).trans rfl; have WV : w9.cell? ⟨dD, 7, none⟩ = some (.bool fD) := (aH bD.out 7).trans rfl; have WW : w9.cell? ⟨dD, 8, none⟩ = some (.slice DC eH.length pX) := (aH bD.out 8).trans rfl; have WX : w9.cell? ⟨dD, 9, none⟩ = some (.int .i64 iH) := (aH bD.out 9).trans rfl; have WY := aG bD.out 0; have WZ := aG bD.out 1; have W9 := aG bD.out 2; have XA := aG bD.out 3; have XB := aG bD.out 4; have XC := aG bD.out 5; have XD := aG bD.out 6; have XE := aG bD.out 7; have XF := aG bD.out 8; have XG := aG bD.out 9))
        go_meet
        case rel => exact ⟨_, (decide ((ji7) ≤ 1024)), (by first | rfl | (simp; done) | (simp only [← ZT] <;> (first | rfl | simp)) | (simp [*]; done)), H', ⟨by first | omega | exact Nat.le_refl _⟩, ⟨by (with_reducible repeat (first | refine bY ?_ _ | refine bQ ?_ | refine bC ?_ _)); exact bD.out⟩, ⟨by repeat (first | (with_reducible first | exact HB.out | apply aQ | apply aT | apply aZ | refine bM ?_ kS.out) | exact HB.out)⟩⟩
      · rw [if_neg c6] at H
        have qcB : decide (1 ≤ iH) = false := decide_eq_false c6
        clear c6
        have H' := aC.mk H
        clear H
        have NM : w3.cell? ⟨dD, 0, none⟩ = some (.slice dQ bJ.length dR) := (aH bD.out 0).trans rfl
        have NP : w3.cell? ⟨dD, 1, none⟩ = some (.bool cZ) := (aH bD.out 1).trans rfl
        have NQ : w3.cell? ⟨dD, 2, none⟩ = some (.int .i64 dA) := (aH bD.out 2).trans rfl
        have NR : w3.cell? ⟨dD, 3, none⟩ = some (.int .i64 dB) := (aH bD.out 3).trans rfl
        have NS : w3.cell? ⟨dD, 4, none⟩ = some (.int .i64 eP) := (aH bD.out 4).trans rfl
        have NT : w3.cell? ⟨dD, 5, none⟩ = some (.int .u64 eX) := (aH bD.out 5).trans rfl
        have NU : w3.cell? ⟨dD, 6, none⟩ = some (.int .u64 eF) := (aH bD.out 6).trans rfl
        have NV : w3.cell? ⟨dD, 7, none⟩ = some (.bool fD) := (aH bD.out 7).trans rfl
        have XH : w3.cell? ⟨dD, 8, none⟩ = some (.slice DC eH.length pX) := (aH bD.out 8).trans rfl
        have XI : w3.cell? ⟨dD, 9, none⟩ = some (.int .i64 iH) := (aH bD.out 9).trans rfl
        have NW := aG bD.out 0
        have NY := aG bD.out 1
        have NZ := aG bD.out 2
        have N7 := aG bD.out 3
        have N8 := aG bD.out 4
        have N9 := aG bD.out 5
        have OA := aG bD.out 6
        have OB := aG bD.out 7
        have XJ := aG bD.out 8
        have XK := aG bD.out 9
        go_wp2_with (first | ((with_reducible refine jP (f := 33) rfl ?_); refine uZ (some 9) rfl rfl Tryz.func33 (by kernel_rfl) rfl #[.agg #[.slice dQ bJ.length dR, .bool cZ, .int .i64 dA, .int .i64 dB, .int .i64 eP, .int .u64 eX, .int .u64 eF, .bool fD]] rfl (by (try simp only [List.map_toArray, List.map_cons, List.map_nil]); first | done | rfl | (simp only [List.length_drop, List.length_take]; rfl)) ?_; (with_reducible refine (fH.calls _ _ bJ cZ dA dB eP eX eF fD t196 _ ?qQ ?qR A4.out).mono ?_); (case qQ => repeat (first | exact (Kd.fK yP.out HB.out) | (with_reducible refine Kd.rC ?_ _) | (with_reducible refine Kd.rD ?_ _) | (with_reducible refine Kd.uY ?_))); (case qR => exact yQ.out); rintro e w12 ⟨rfl, hb⟩; refine ⟨_, rfl, ?_⟩; have n0_ := aC.mk (bG (g := dD) (o := .cells #[.slice dQ bJ.length dR, .bool cZ, .int .i64 dA, .int .i64 dB, .int .i64 eP, .int .u64 eX, .int .u64 eF, .bool fD, .slice DC eH.length pX, .int .i64 iH] 33 (0, 0)) (by (with_reducible repeat (first | refine bY ?_ _ | refine bQ ?_ | refine bC ?_ _)); exact bD.out) hb); have n1_ := aC.mk (bF (by repeat (first | (with_reducible first | exact HB.out | apply aQ | apply aT | apply aZ | refine bM ?_ kS.out) | exact HB.out)) hb); clear bD; clear HB; have bD := n0_; have HB := n1_; clear n0_ n1_; (try clear hb); (try clear hb2); (try clear hk); (try clear hi); have OC : w12.cell? ⟨dD, 0, none⟩ = some (.slice dQ bJ.length dR) := (aH bD.out 0).trans rfl; have OD : w12.cell? ⟨dD, 1, none⟩ = some (.bool cZ) := (aH bD.out 1).trans rfl; have OE : w12.cell? ⟨dD, 2, none⟩ = some (.int .i64 dA) := (aH bD.out 2).trans rfl; have OG : w12.cell? ⟨dD, 3, none⟩ = some (.int .i64 dB) := (aH bD.out 3).trans rfl; have OH : w12.cell? ⟨dD, 4, none⟩ = some (.int .i64 eP) := (aH bD.out 4).trans rfl; have OI : w12.cell? ⟨dD, 5, none⟩ = some (.int .u64 eX) := (aH bD.out 5).trans rfl; have OJ : w12.cell? ⟨dD, 6, none⟩ = some (.int .u64 eF) := (aH bD.out 6).trans rfl; have OL : w12.cell? ⟨dD, 7, none⟩ = some (.bool fD) := (aH bD.out 7).trans rfl; have XL : w12.cell? ⟨dD, 8, none⟩ = some (.slice DC eH.length pX) := (aH bD.out 8).trans rfl; have XM : w12.cell? ⟨dD, 9, none⟩ = some (.int .i64 iH) := (aH bD.out 9).trans rfl; have OM := aG bD.out 0; have OO := aG bD.out 1; have OQ := aG bD.out 2; have OT := aG bD.out 3; have OU := aG bD.out 4; have OV := aG bD.out 5; have OW := aG bD.out 6; have OX := aG bD.out 7; have XO := aG bD.out 8; have XP := aG bD.out 9))
        go_meet
        case rel => exact ⟨_, (false), (by first | rfl | (simp; done) | (simp [*]; done)), H', ⟨by first | omega | exact Nat.le_refl _⟩, ⟨by (with_reducible repeat (first | refine bY ?_ _ | refine bQ ?_ | refine bC ?_ _)); exact bD.out⟩, ⟨by repeat (first | (with_reducible first | exact HB.out | apply aQ | apply aT | apply aZ | refine bM ?_ kS.out) | exact HB.out)⟩⟩
    · rw [if_neg c5] at H
      have RI : (t196 == 0) = false := beq_eq_false_iff_ne.mpr c5
      have qdO : (t196 != 0) = true := bne_iff_ne.mpr c5
      (first | rw [RI] | (simp only [aI, aJ]; rw [RI]) | skip)
      have H' := aC.mk H
      clear H
      have XQ : w3.cell? ⟨dD, 0, none⟩ = some (.slice dQ bJ.length dR) := (aH bD.out 0).trans rfl
      have XR : w3.cell? ⟨dD, 1, none⟩ = some (.bool cZ) := (aH bD.out 1).trans rfl
      have XT : w3.cell? ⟨dD, 2, none⟩ = some (.int .i64 dA) := (aH bD.out 2).trans rfl
      have XU : w3.cell? ⟨dD, 3, none⟩ = some (.int .i64 dB) := (aH bD.out 3).trans rfl
      have XV : w3.cell? ⟨dD, 4, none⟩ = some (.int .i64 eP) := (aH bD.out 4).trans rfl
      have XW : w3.cell? ⟨dD, 5, none⟩ = some (.int .u64 eX) := (aH bD.out 5).trans rfl
      have XY : w3.cell? ⟨dD, 6, none⟩ = some (.int .u64 eF) := (aH bD.out 6).trans rfl
      have XZ : w3.cell? ⟨dD, 7, none⟩ = some (.bool fD) := (aH bD.out 7).trans rfl
      have X0 : w3.cell? ⟨dD, 8, none⟩ = some (.slice DC eH.length pX) := (aH bD.out 8).trans rfl
      have X3 : w3.cell? ⟨dD, 9, none⟩ = some (.int .i64 iH) := (aH bD.out 9).trans rfl
      have X4 := aG bD.out 0
      have X5 := aG bD.out 1
      have X6 := aG bD.out 2
      have X7 := aG bD.out 3
      have X8 := aG bD.out 4
      have X9 := aG bD.out 5
      have YA := aG bD.out 6
      have YB := aG bD.out 7
      have YC := aG bD.out 8
      have YD := aG bD.out 9
      go_wp2_with (first | ((with_reducible refine jP (f := 33) rfl ?_); refine uZ (some 9) rfl rfl Tryz.func33 (by kernel_rfl) rfl #[.agg #[.slice dQ bJ.length dR, .bool cZ, .int .i64 dA, .int .i64 dB, .int .i64 eP, .int .u64 eX, .int .u64 eF, .bool fD]] rfl (by (try simp only [List.map_toArray, List.map_cons, List.map_nil]); first | done | rfl | (simp only [List.length_drop, List.length_take]; rfl)) ?_; (with_reducible refine (fH.calls _ _ bJ cZ dA dB eP eX eF fD t196 _ ?qQ ?qR A4.out).mono ?_); (case qQ => repeat (first | exact (Kd.fK yP.out HB.out) | (with_reducible refine Kd.rC ?_ _) | (with_reducible refine Kd.rD ?_ _) | (with_reducible refine Kd.uY ?_))); (case qR => exact yQ.out); rintro e w15 ⟨rfl, hb⟩; refine ⟨_, rfl, ?_⟩; have n0_ := aC.mk (bG (g := dD) (o := .cells #[.slice dQ bJ.length dR, .bool cZ, .int .i64 dA, .int .i64 dB, .int .i64 eP, .int .u64 eX, .int .u64 eF, .bool fD, .slice DC eH.length pX, .int .i64 iH] 33 (0, 0)) (by (with_reducible repeat (first | refine bY ?_ _ | refine bQ ?_ | refine bC ?_ _)); exact bD.out) hb); have n1_ := aC.mk (bF (by repeat (first | (with_reducible first | exact HB.out | apply aQ | apply aT | apply aZ | refine bM ?_ kS.out) | exact HB.out)) hb); clear bD; clear HB; have bD := n0_; have HB := n1_; clear n0_ n1_; (try clear hb); (try clear hb2); (try clear hk); (try clear hi)))
      go_meet
      case rel => exact ⟨_, (false), (by first | rfl | (simp; done) | (simp [*]; done)), H', ⟨by first | omega | exact Nat.le_refl _⟩, ⟨by (with_reducible repeat (first | refine bY ?_ _ | refine bQ ?_ | refine bC ?_ _)); exact bD.out⟩, ⟨by repeat (first | (with_reducible first | exact HB.out | apply aQ | apply aT | apply aZ | refine bM ?_ kS.out) | exact HB.out)⟩⟩
  case rest =>
    clear HC2
    try clear p2
    try clear c3
    try clear c5
    try clear RI
    try clear qdO
    try clear c6
    try clear qcB
    try clear WM
    try clear WO
    try clear WQ
    try clear WR
    try clear WS
    try clear WT
    try clear WU
    try clear WV
    try clear WW
    try clear WX
    try clear NM
    try clear NP
    try clear NQ
    try clear NR
    try clear NS
    try clear NT
    try clear NU
    try clear NV
    try clear XH
    try clear XI
    try clear OC
    try clear OD
    try clear OE
    try clear OG
    try clear OH
    try clear OI
    try clear OJ
    try clear OL
    try clear XL
    try clear XM
    try clear XQ
    try clear XR
    try clear XT
    try clear XU
    try clear XV
    try clear XW
    try clear XY
    try clear XZ
    try clear X0
    try clear X3
    try clear TU
    try clear TV
    try clear TW
    try clear TY
    try clear UA
    try clear UC
    try clear UD
    try clear UF
    try clear qbf
    try clear qbg
    try clear WY
    try clear WZ
    try clear W9
    try clear XA
    try clear XB
    try clear XC
    try clear XD
    try clear XE
    try clear XF
    try clear XG
    try clear NW
    try clear NY
    try clear NZ
    try clear N7
    try clear N8
    try clear N9
    try clear OA
    try clear OB
    try clear XJ
    try clear XK
    try clear OM
    try clear OO
    try clear OQ
    try clear OT
    try clear OU
    try clear OV
    try clear OW
    try clear OX
    try clear XO
    try clear XP
    try clear X4
    try clear X5
    try clear X6
    try clear X7
    try clear X8
    try clear X9
    try clear YA
    try clear YB
    try clear YC
    try clear YD
    try clear UG
    try clear UH
    try clear UJ
    try clear UK
    try clear UL
    try clear UM
    try clear UN
    try clear UO
    try clear qbh
    try clear qbi
    obtain ⟨kq, qcA, rfl, HA, HJ1, bD, HB⟩ := hcut
    cases kq with
    | zero => exact absurd HA.out (by simp [bP.j0])
    | succ kj1 =>
      have H := HA.out
      clear HA
      simp only [bP.j0] at H
      have H' := aC.mk H
      clear H
      have VZ : wc.cell? ⟨dD, 0, none⟩ = some (.slice dQ bJ.length dR) := (aH bD.out 0).trans rfl
      have V3 : wc.cell? ⟨dD, 1, none⟩ = some (.bool cZ) := (aH bD.out 1).trans rfl
      have V4 : wc.cell? ⟨dD, 2, none⟩ = some (.int .i64 dA) := (aH bD.out 2).trans rfl
      have V5 : wc.cell? ⟨dD, 3, none⟩ = some (.int .i64 dB) := (aH bD.out 3).trans rfl
      have V6 : wc.cell? ⟨dD, 4, none⟩ = some (.int .i64 eP) := (aH bD.out 4).trans rfl
      have V7 : wc.cell? ⟨dD, 5, none⟩ = some (.int .u64 eX) := (aH bD.out 5).trans rfl
      have V8 : wc.cell? ⟨dD, 6, none⟩ = some (.int .u64 eF) := (aH bD.out 6).trans rfl
      have V9 : wc.cell? ⟨dD, 7, none⟩ = some (.bool fD) := (aH bD.out 7).trans rfl
      have qcC : wc.cell? ⟨dD, 8, none⟩ = some (.slice DC eH.length pX) := (aH bD.out 8).trans rfl
      have qcD : wc.cell? ⟨dD, 9, none⟩ = some (.int .i64 iH) := (aH bD.out 9).trans rfl
      have WA := aG bD.out 0
      have WB := aG bD.out 1
      have WC := aG bD.out 2
      have WE := aG bD.out 3
      have WG := aG bD.out 4
      have WH := aG bD.out 5
      have WI := aG bD.out 6
      have WJ := aG bD.out 7
      have qcE := aG bD.out 8
      have qcF := aG bD.out 9
      go_wp2
      go_loopg [3, 4, 31] kj1 (fun kq v3 v4 v31 w' => ∃ (qbj : Bool) (F7 : Int) (fJ : Int), v3 = .bool qbj ∧ v4 = .int .u64 F7 ∧ v31 = .int .i64 fJ ∧ aC (bP.l0 kq qbj F7 eH (eH.length : Int) fJ bJ cZ dA dB eP eX eF fD eH iH = some r) ∧ aC (kq ≤ kj1) ∧ aC (w'.heap[dD]? = some (.cells #[(.slice dQ bJ.length dR), .bool cZ, .int .i64 dA, .int .i64 dB, .int .i64 eP, .int .u64 eX, .int .u64 eF, .bool fD, (.slice DC eH.length pX), .int .i64 iH] 33 (0, 0))) ∧ aC (Below w.heap.size w w'))
      case atStart => exact ⟨(qcA), (eX), (0), (by first | rfl | (simp; done) | (simp [*]; done)), (by first | rfl | (simp; done) | (simp [*]; done)), (by first | rfl | (simp; done) | (simp [*]; done)), H', ⟨Nat.le_refl _⟩, ⟨by (with_reducible repeat (first | refine bY ?_ _ | refine bQ ?_ | refine bC ?_ _)); exact bD.out⟩, ⟨by repeat (first | (with_reducible first | exact HB.out | apply aQ | apply aT | apply aZ | refine bM ?_ kS.out) | exact HB.out)⟩⟩
      case round =>
        clear H'
        try clear p2
        try clear c3
        try clear c5
        try clear RI
        try clear qdO
        try clear c6
        try clear qcB
        try clear WM
        try clear WO
        try clear WQ
        try clear WR
        try clear WS
        try clear WT
        try clear WU
        try clear WV
        try clear WW
        try clear WX
        try clear NM
        try clear NP
        try clear NQ
        try clear NR
        try clear NS
        try clear NT
        try clear NU
        try clear NV
        try clear XH
        try clear XI
        try clear OC
        try clear OD
        try clear OE
        try clear OG
        try clear OH
        try clear OI
        try clear OJ
        try clear OL
        try clear XL
        try clear XM
        try clear XQ
        try clear XR
        try clear XT
        try clear XU
        try clear XV
        try clear XW
        try clear XY
        try clear XZ
        try clear X0
        try clear X3
        try clear VZ
        try clear V3
        try clear V4
        try clear V5
        try clear V6
        try clear V7
        try clear V8
        try clear V9
        try clear qcC
        try clear qcD
        try clear TU
        try clear TV
        try clear TW
        try clear TY
        try clear UA
        try clear UC
        try clear UD
        try clear UF
        try clear qbf
        try clear qbg
        try clear WY
        try clear WZ
        try clear W9
        try clear XA
        try clear XB
        try clear XC
        try clear XD
        try clear XE
        try clear XF
        try clear XG
        try clear NW
        try clear NY
        try clear NZ
        try clear N7
        try clear N8
        try clear N9
        try clear OA
        try clear OB
        try clear XJ
        try clear XK
        try clear OM
        try clear OO
        try clear OQ
        try clear OT
        try clear OU
        try clear OV
        try clear OW
        try clear OX
        try clear XO
        try clear XP
        try clear X4
        try clear X5
        try clear X6
        try clear X7
        try clear X8
        try clear X9
        try clear YA
        try clear YB
        try clear YC
        try clear YD
        try clear WA
        try clear WB
        try clear WC
        try clear WE
        try clear WG
        try clear WH
        try clear WI
        try clear WJ
        try clear qcE
        try clear qcF
        try clear UG
        try clear UH
        try clear UJ
        try clear UK
        try clear UL
        try clear UM
        try clear UN
        try clear UO
        try clear qbh
        try clear qbi
        try clear p2
        obtain ⟨qbj, F7, fJ, rfl, rfl, rfl, HA, HK2, bD, HB⟩ := hrel
        cases gk with
        | zero => exact absurd HA.out (by simp [bP.l0])
        | succ k2 =>
          have H := HA.out
          clear HA
          simp only [bP.l0] at H
          by_cases c17 : fJ < (eH.length : Int)
          · rw [if_pos c17] at H
            have qex : decide (fJ < (eH.length : Int)) = true := decide_eq_true c17
            clear c17
            by_cases c18 : 0 ≤ fJ
            · rw [if_pos c18] at H
              have qia : decide (0 ≤ fJ) = true := decide_eq_true c18
              clear c18
              by_cases c19 : fJ < (eH.length : Int)
              · rw [if_pos c19] at H
                have qc0 : decide (fJ < (eH.length : Int)) = true := decide_eq_true c19
                clear c19
                by_cases c20 : qbj = true
                · subst c20
                  have H1 : (if (((dN eH fJ).f1).size : Int) < 65536 then (if ((dN eH fJ).f0) ≥ F7 then (bP.l0 k2 (decide (((dN eH fJ).f0) < eF)) (IntKind.u64.wrap (((dN eH fJ).f0) + 1)) eH (eH.length : Int) (wrap64 (fJ + 1)) bJ cZ dA dB eP eX eF fD eH iH) else (bP.l0 k2 false (IntKind.u64.wrap (((dN eH fJ).f0) + 1)) eH (eH.length : Int) (wrap64 (fJ + 1)) bJ cZ dA dB eP eX eF fD eH iH)) else (bP.l0 k2 false (IntKind.u64.wrap (((dN eH fJ).f0) + 1)) eH (eH.length : Int) (wrap64 (fJ + 1)) bJ cZ dA dB eP eX eF fD eH iH)) = some r := by rw [if_pos rfl] at H; exact H
                  clear H
                  have H := H1
                  clear H1
                  by_cases c21 : (((dN eH fJ).f1).size : Int) < 65536
                  · rw [if_pos c21] at H
                    have qey : decide ((((dN eH fJ).f1).size : Int) < 65536) = true := decide_eq_true c21
                    have qez : decide (((dN eH fJ).f1).size < 65536) = true := decide_eq_true (by omega)
                    clear c21
                    by_cases c22 : ((dN eH fJ).f0) ≥ F7
                    · rw [if_pos c22] at H
                      have qeA : decide (F7 ≤ ((dN eH fJ).f0)) = true := decide_eq_true c22
                      clear c22
                      have H' := aC.mk H
                      clear H
                      have AZ : 0 ≤ (fJ : Int) := of_decide_eq_true (by first | (with_reducible assumption) | assumption)
                      have BA : fJ < (eH.length : Int) := of_decide_eq_true (by first | (with_reducible assumption) | assumption)
                      obtain ⟨qZ, e197, kN, kP, kQ⟩ := wI WL.out fJ AZ BA
                      cases e197
                      replace kN := (HB.out.cell (World.block_lt_of_cell? w _ kN)).trans kN
                      replace kP := (HB.out.cell (World.block_lt_of_cell? w _ kP)).trans kP
                      replace kQ := (HB.out.cell (World.block_lt_of_cell? w _ kQ)).trans kQ
                      replace AZ := eq_true AZ
                      replace BA := eq_true BA
                      go_wp2_with (first | ((with_reducible refine aU (N := 6) rfl ?_); (try (refine rW (by rfl) ?_; dsimp only)); refine dL ?hg (N := 6) ?hd (cs := #[.int .u64 0, .string (⟨#[]⟩ : ByteArray), .bool false]) (t := 41) ?hr ?_; (case hd => rfl); (case hg => rfl); (case hr => first | (go_simp; done) | (go_simp; rfl)); intro jI hg w23 hbox hb; have n0_ := aC.mk (bG (g := dD) (o := .cells #[.slice dQ bJ.length dR, .bool cZ, .int .i64 dA, .int .i64 dB, .int .i64 eP, .int .u64 eX, .int .u64 eF, .bool fD, .slice (some qZ) eH.length pX, .int .i64 iH] 33 (0, 0)) (by (with_reducible repeat (first | refine bY ?_ _ | refine bQ ?_ | refine bC ?_ _)); exact bD.out) hb); have n1_ := aC.mk (bF (by repeat (first | (with_reducible first | exact HB.out | apply aQ | apply aT | apply aZ | refine bM ?_ kS.out) | exact HB.out)) hb); have n2_ := aC.mk (hbox); have n3_ := aC.mk ((by rw [hg]; exact (dU (by repeat (first | (with_reducible first | exact HB.out | apply aQ | apply aT | apply aZ | refine bM ?_ kS.out) | exact HB.out))) : w.heap.size ≤ jI)); have n4_ := aC.mk ((by rw [hg]; exact (dU (by repeat (first | (with_reducible first | exact HB.out | apply aQ | apply aT | apply aZ | refine bM ?_ kS.out) | exact HB.out))) : w.heap.size ≤ jI)); have n5_ := aC.mk ((by rw [hg]; exact Nat.ne_of_lt (gJ (g := dD) (o := .cells #[.slice dQ bJ.length dR, .bool cZ, .int .i64 dA, .int .i64 dB, .int .i64 eP, .int .u64 eX, .int .u64 eF, .bool fD, .slice (some qZ) eH.length pX, .int .i64 iH] 33 (0, 0)) (by (with_reducible repeat (first | refine bY ?_ _ | refine bQ ?_ | refine bC ?_ _)); exact bD.out)) : dD ≠ jI)); have n6_ := aC.mk ((by rw [hg]; exact Nat.ne_of_gt (gJ (g := dD) (o := .cells #[.slice dQ bJ.length dR, .bool cZ, .int .i64 dA, .int .i64 dB, .int .i64 eP, .int .u64 eX, .int .u64 eF, .bool fD, .slice (some qZ) eH.length pX, .int .i64 iH] 33 (0, 0)) (by (with_reducible repeat (first | refine bY ?_ _ | refine bQ ?_ | refine bC ?_ _)); exact bD.out)) : jI ≠ dD)); clear bD; clear HB; have bD := n0_; have HB := n1_; have kC := n2_; have qbk := n3_; have JW := n4_; have gG := n5_; have pY := n6_; clear n0_ n1_ n2_ n3_ n4_ n5_ n6_; clear hb hbox hg; have qib := pY.out; have qic := gG.out; have qcj : w23.cell? ⟨jI, 0, none⟩ = some (.int .u64 0) := (aH kC.out 0).trans rfl; have qck : w23.cell? ⟨jI, 1, none⟩ = some (.string (⟨#[]⟩ : ByteArray)) := (aH kC.out 1).trans rfl; have qcl : w23.cell? ⟨jI, 2, none⟩ = some (.bool false) := (aH kC.out 2).trans rfl; have qcm := aG kC.out 0; have qcn := aG kC.out 1; have qco := aG kC.out 2; have qgm : w23.cell? ⟨dD, 0, none⟩ = some (.slice dQ bJ.length dR) := (aH bD.out 0).trans rfl; have qgn : w23.cell? ⟨dD, 1, none⟩ = some (.bool cZ) := (aH bD.out 1).trans rfl; have qgo : w23.cell? ⟨dD, 2, none⟩ = some (.int .i64 dA) := (aH bD.out 2).trans rfl; have qgp : w23.cell? ⟨dD, 3, none⟩ = some (.int .i64 dB) := (aH bD.out 3).trans rfl; have qgq : w23.cell? ⟨dD, 4, none⟩ = some (.int .i64 eP) := (aH bD.out 4).trans rfl; have qgr : w23.cell? ⟨dD, 5, none⟩ = some (.int .u64 eX) := (aH bD.out 5).trans rfl; have qgs : w23.cell? ⟨dD, 6, none⟩ = some (.int .u64 eF) := (aH bD.out 6).trans rfl; have qgt : w23.cell? ⟨dD, 7, none⟩ = some (.bool fD) := (aH bD.out 7).trans rfl; have qgu : w23.cell? ⟨dD, 8, none⟩ = some (.slice (some qZ) eH.length pX) := (aH bD.out 8).trans rfl; have qgv : w23.cell? ⟨dD, 9, none⟩ = some (.int .i64 iH) := (aH bD.out 9).trans rfl; have qgw := aG bD.out 0; have qgx := aG bD.out 1; have qgy := aG bD.out 2; have qgz := aG bD.out 3; have qgA := aG bD.out 4; have qgB := aG bD.out 5; have qgC := aG bD.out 6; have qgD := aG bD.out 7; have qgE := aG bD.out 8; have qgF := aG bD.out 9))
                      go_roundg k2
                      case measure => have := HJ1.out; have := HK2.out; omega
                      case rel => exact ⟨(decide (((dN eH fJ).f0) < eF)), (IntKind.u64.wrap (((dN eH fJ).f0) + 1)), (wrap64 (fJ + 1)), (by first | rfl | (simp; done) | (simp [*]; done)), (by first | rfl | (simp; done) | (simp [*]; done)), (by first | rfl | (simp; done) | (simp [*]; done)), H', ⟨by have := HJ1.out; have := HK2.out; omega⟩, ⟨by (with_reducible repeat (first | refine bY ?_ _ | refine bQ ?_ | refine bC ?_ _)); refine dO ?_ gG.out _; (with_reducible repeat (first | refine bY ?_ _ | refine bQ ?_ | refine bC ?_ _)); refine dO ?_ gG.out _; (with_reducible repeat (first | refine bY ?_ _ | refine bQ ?_ | refine bC ?_ _)); refine dO ?_ gG.out _; (with_reducible repeat (first | refine bY ?_ _ | refine bQ ?_ | refine bC ?_ _)); exact bD.out⟩, ⟨by repeat (first | (with_reducible first | exact HB.out | apply aQ | apply aT | apply aZ | refine bM ?_ kS.out | refine bM ?_ JW.out) | exact HB.out)⟩⟩
                    · rw [if_neg c22] at H
                      have qeA : decide (F7 ≤ ((dN eH fJ).f0)) = false := decide_eq_false c22
                      clear c22
                      have H' := aC.mk H
                      clear H
                      have AZ : 0 ≤ (fJ : Int) := of_decide_eq_true (by first | (with_reducible assumption) | assumption)
                      have BA : fJ < (eH.length : Int) := of_decide_eq_true (by first | (with_reducible assumption) | assumption)
                      obtain ⟨qZ, e197, kN, kP, kQ⟩ := wI WL.out fJ AZ BA
                      cases e197
                      replace kN := (HB.out.cell (World.block_lt_of_cell? w _ kN)).trans kN
                      replace kP := (HB.out.cell (World.block_lt_of_cell? w _ kP)).trans kP
                      replace kQ := (HB.out.cell (World.block_lt_of_cell? w _ kQ)).trans kQ
                      replace AZ := eq_true AZ
                      replace BA := eq_true BA
                      go_wp2_with (first | ((with_reducible refine aU (N := 6) rfl ?_); (try (refine rW (by rfl) ?_; dsimp only)); refine dL ?hg (N := 6) ?hd (cs := #[.int .u64 0, .string (⟨#[]⟩ : ByteArray), .bool false]) (t := 41) ?hr ?_; (case hd => rfl); (case hg => rfl); (case hr => first | (go_simp; done) | (go_simp; rfl)); intro jI hg w27 hbox hb; have n0_ := aC.mk (bG (g := dD) (o := .cells #[.slice dQ bJ.length dR, .bool cZ, .int .i64 dA, .int .i64 dB, .int .i64 eP, .int .u64 eX, .int .u64 eF, .bool fD, .slice (some qZ) eH.length pX, .int .i64 iH] 33 (0, 0)) (by (with_reducible repeat (first | refine bY ?_ _ | refine bQ ?_ | refine bC ?_ _)); exact bD.out) hb); have n1_ := aC.mk (bF (by repeat (first | (with_reducible first | exact HB.out | apply aQ | apply aT | apply aZ | refine bM ?_ kS.out) | exact HB.out)) hb); have n2_ := aC.mk (hbox); have n3_ := aC.mk ((by rw [hg]; exact (dU (by repeat (first | (with_reducible first | exact HB.out | apply aQ | apply aT | apply aZ | refine bM ?_ kS.out) | exact HB.out))) : w.heap.size ≤ jI)); have n4_ := aC.mk ((by rw [hg]; exact (dU (by repeat (first | (with_reducible first | exact HB.out | apply aQ | apply aT | apply aZ | refine bM ?_ kS.out) | exact HB.out))) : w.heap.size ≤ jI)); have n5_ := aC.mk ((by rw [hg]; exact Nat.ne_of_lt (gJ (g := dD) (o := .cells #[.slice dQ bJ.length dR, .bool cZ, .int .i64 dA, .int .i64 dB, .int .i64 eP, .int .u64 eX, .int .u64 eF, .bool fD, .slice (some qZ) eH.length pX, .int .i64 iH] 33 (0, 0)) (by (with_reducible repeat (first | refine bY ?_ _ | refine bQ ?_ | refine bC ?_ _)); exact bD.out)) : dD ≠ jI)); have n6_ := aC.mk ((by rw [hg]; exact Nat.ne_of_gt (gJ (g := dD) (o := .cells #[.slice dQ bJ.length dR, .bool cZ, .int .i64 dA, .int .i64 dB, .int .i64 eP, .int .u64 eX, .int .u64 eF, .bool fD, .slice (some qZ) eH.length pX, .int .i64 iH] 33 (0, 0)) (by (with_reducible repeat (first | refine bY ?_ _ | refine bQ ?_ | refine bC ?_ _)); exact bD.out)) : jI ≠ dD)); clear bD; clear HB; have bD := n0_; have HB := n1_; have kC := n2_; have qbk := n3_; have JW := n4_; have gG := n5_; have pY := n6_; clear n0_ n1_ n2_ n3_ n4_ n5_ n6_; clear hb hbox hg; have qid := pY.out; have qie := gG.out; have qcp : w27.cell? ⟨jI, 0, none⟩ = some (.int .u64 0) := (aH kC.out 0).trans rfl; have qcq : w27.cell? ⟨jI, 1, none⟩ = some (.string (⟨#[]⟩ : ByteArray)) := (aH kC.out 1).trans rfl; have qcr : w27.cell? ⟨jI, 2, none⟩ = some (.bool false) := (aH kC.out 2).trans rfl; have qcs := aG kC.out 0; have qct := aG kC.out 1; have qcu := aG kC.out 2))
                      go_roundg k2
                      case measure => have := HJ1.out; have := HK2.out; omega
                      case rel => exact ⟨(false), (IntKind.u64.wrap (((dN eH fJ).f0) + 1)), (wrap64 (fJ + 1)), (by first | rfl | (simp; done) | (simp [*]; done)), (by first | rfl | (simp; done) | (simp [*]; done)), (by first | rfl | (simp; done) | (simp [*]; done)), H', ⟨by have := HJ1.out; have := HK2.out; omega⟩, ⟨by (with_reducible repeat (first | refine bY ?_ _ | refine bQ ?_ | refine bC ?_ _)); refine dO ?_ gG.out _; (with_reducible repeat (first | refine bY ?_ _ | refine bQ ?_ | refine bC ?_ _)); refine dO ?_ gG.out _; (with_reducible repeat (first | refine bY ?_ _ | refine bQ ?_ | refine bC ?_ _)); refine dO ?_ gG.out _; (with_reducible repeat (first | refine bY ?_ _ | refine bQ ?_ | refine bC ?_ _)); exact bD.out⟩, ⟨by repeat (first | (with_reducible first | exact HB.out | apply aQ | apply aT | apply aZ | refine bM ?_ kS.out | refine bM ?_ JW.out) | exact HB.out)⟩⟩
                  · rw [if_neg c21] at H
                    have qey : decide ((((dN eH fJ).f1).size : Int) < 65536) = false := decide_eq_false c21
                    have qez : decide (((dN eH fJ).f1).size < 65536) = false := decide_eq_false (by omega)
                    clear c21
                    have H' := aC.mk H
                    clear H
                    have AZ : 0 ≤ (fJ : Int) := of_decide_eq_true (by first | (with_reducible assumption) | assumption)
                    have BA : fJ < (eH.length : Int) := of_decide_eq_true (by first | (with_reducible assumption) | assumption)
                    obtain ⟨qZ, e197, kN, kP, kQ⟩ := wI WL.out fJ AZ BA
                    cases e197
                    replace kN := (HB.out.cell (World.block_lt_of_cell? w _ kN)).trans kN
                    replace kP := (HB.out.cell (World.block_lt_of_cell? w _ kP)).trans kP
                    replace kQ := (HB.out.cell (World.block_lt_of_cell? w _ kQ)).trans kQ
                    replace AZ := eq_true AZ
                    replace BA := eq_true BA
                    go_wp2_with (first | ((with_reducible refine aU (N := 6) rfl ?_); (try (refine rW (by rfl) ?_; dsimp only)); refine dL ?hg (N := 6) ?hd (cs := #[.int .u64 0, .string (⟨#[]⟩ : ByteArray), .bool false]) (t := 41) ?hr ?_; (case hd => rfl); (case hg => rfl); (case hr => first | (go_simp; done) | (go_simp; rfl)); intro jI hg w30 hbox hb; have n0_ := aC.mk (bG (g := dD) (o := .cells #[.slice dQ bJ.length dR, .bool cZ, .int .i64 dA, .int .i64 dB, .int .i64 eP, .int .u64 eX, .int .u64 eF, .bool fD, .slice (some qZ) eH.length pX, .int .i64 iH] 33 (0, 0)) (by (with_reducible repeat (first | refine bY ?_ _ | refine bQ ?_ | refine bC ?_ _)); exact bD.out) hb); have n1_ := aC.mk (bF (by repeat (first | (with_reducible first | exact HB.out | apply aQ | apply aT | apply aZ | refine bM ?_ kS.out) | exact HB.out)) hb); have n2_ := aC.mk (hbox); have n3_ := aC.mk ((by rw [hg]; exact (dU (by repeat (first | (with_reducible first | exact HB.out | apply aQ | apply aT | apply aZ | refine bM ?_ kS.out) | exact HB.out))) : w.heap.size ≤ jI)); have n4_ := aC.mk ((by rw [hg]; exact (dU (by repeat (first | (with_reducible first | exact HB.out | apply aQ | apply aT | apply aZ | refine bM ?_ kS.out) | exact HB.out))) : w.heap.size ≤ jI)); have n5_ := aC.mk ((by rw [hg]; exact Nat.ne_of_lt (gJ (g := dD) (o := .cells #[.slice dQ bJ.length dR, .bool cZ, .int .i64 dA, .int .i64 dB, .int .i64 eP, .int .u64 eX, .int .u64 eF, .bool fD, .slice (some qZ) eH.length pX, .int .i64 iH] 33 (0, 0)) (by (with_reducible repeat (first | refine bY ?_ _ | refine bQ ?_ | refine bC ?_ _)); exact bD.out)) : dD ≠ jI)); have n6_ := aC.mk ((by rw [hg]; exact Nat.ne_of_gt (gJ (g := dD) (o := .cells #[.slice dQ bJ.length dR, .bool cZ, .int .i64 dA, .int .i64 dB, .int .i64 eP, .int .u64 eX, .int .u64 eF, .bool fD, .slice (some qZ) eH.length pX, .int .i64 iH] 33 (0, 0)) (by (with_reducible repeat (first | refine bY ?_ _ | refine bQ ?_ | refine bC ?_ _)); exact bD.out)) : jI ≠ dD)); clear bD; clear HB; have bD := n0_; have HB := n1_; have kC := n2_; have qbk := n3_; have JW := n4_; have gG := n5_; have pY := n6_; clear n0_ n1_ n2_ n3_ n4_ n5_ n6_; clear hb hbox hg; have qif := pY.out; have qig := gG.out; have qgG : w30.cell? ⟨jI, 0, none⟩ = some (.int .u64 0) := (aH kC.out 0).trans rfl; have qgH : w30.cell? ⟨jI, 1, none⟩ = some (.string (⟨#[]⟩ : ByteArray)) := (aH kC.out 1).trans rfl; have qgI : w30.cell? ⟨jI, 2, none⟩ = some (.bool false) := (aH kC.out 2).trans rfl; have qgJ := aG kC.out 0; have qgK := aG kC.out 1; have qgL := aG kC.out 2))
                    go_roundg k2
                    case measure => have := HJ1.out; have := HK2.out; omega
                    case rel => exact ⟨(false), (IntKind.u64.wrap (((dN eH fJ).f0) + 1)), (wrap64 (fJ + 1)), (by first | rfl | (simp; done) | (simp [*]; done)), (by first | rfl | (simp; done) | (simp [*]; done)), (by first | rfl | (simp; done) | (simp [*]; done)), H', ⟨by have := HJ1.out; have := HK2.out; omega⟩, ⟨by (with_reducible repeat (first | refine bY ?_ _ | refine bQ ?_ | refine bC ?_ _)); refine dO ?_ gG.out _; (with_reducible repeat (first | refine bY ?_ _ | refine bQ ?_ | refine bC ?_ _)); refine dO ?_ gG.out _; (with_reducible repeat (first | refine bY ?_ _ | refine bQ ?_ | refine bC ?_ _)); refine dO ?_ gG.out _; (with_reducible repeat (first | refine bY ?_ _ | refine bQ ?_ | refine bC ?_ _)); exact bD.out⟩, ⟨by repeat (first | (with_reducible first | exact HB.out | apply aQ | apply aT | apply aZ | refine bM ?_ kS.out | refine bM ?_ JW.out) | exact HB.out)⟩⟩
                · replace c20 := Bool.eq_false_iff.mpr c20
                  subst c20
                  have H1 : (bP.l0 k2 false (IntKind.u64.wrap (((dN eH fJ).f0) + 1)) eH (eH.length : Int) (wrap64 (fJ + 1)) bJ cZ dA dB eP eX eF fD eH iH) = some r := by rw [if_neg (show ¬ (false = true) by decide)] at H; exact H
                  clear H
                  have H := H1
                  clear H1
                  have H' := aC.mk H
                  clear H
                  have AZ : 0 ≤ (fJ : Int) := of_decide_eq_true (by first | (with_reducible assumption) | assumption)
                  have BA : fJ < (eH.length : Int) := of_decide_eq_true (by first | (with_reducible assumption) | assumption)
                  obtain ⟨qZ, e197, kN, kP, kQ⟩ := wI WL.out fJ AZ BA
                  cases e197
                  replace kN := (HB.out.cell (World.block_lt_of_cell? w _ kN)).trans kN
                  replace kP := (HB.out.cell (World.block_lt_of_cell? w _ kP)).trans kP
                  replace kQ := (HB.out.cell (World.block_lt_of_cell? w _ kQ)).trans kQ
                  replace AZ := eq_true AZ
                  replace BA := eq_true BA
                  go_wp2_with (first | ((with_reducible refine aU (N := 6) rfl ?_); (try (refine rW (by rfl) ?_; dsimp only)); refine dL ?hg (N := 6) ?hd (cs := #[.int .u64 0, .string (⟨#[]⟩ : ByteArray), .bool false]) (t := 41) ?hr ?_; (case hd => rfl); (case hg => rfl); (case hr => first | (go_simp; done) | (go_simp; rfl)); intro jI hg w33 hbox hb; have n0_ := aC.mk (bG (g := dD) (o := .cells #[.slice dQ bJ.length dR, .bool cZ, .int .i64 dA, .int .i64 dB, .int .i64 eP, .int .u64 eX, .int .u64 eF, .bool fD, .slice (some qZ) eH.length pX, .int .i64 iH] 33 (0, 0)) (by (with_reducible repeat (first | refine bY ?_ _ | refine bQ ?_ | refine bC ?_ _)); exact bD.out) hb); have n1_ := aC.mk (bF (by repeat (first | (with_reducible first | exact HB.out | apply aQ | apply aT | apply aZ | refine bM ?_ kS.out) | exact HB.out)) hb); have n2_ := aC.mk (hbox); have n3_ := aC.mk ((by rw [hg]; exact (dU (by repeat (first | (with_reducible first | exact HB.out | apply aQ | apply aT | apply aZ | refine bM ?_ kS.out) | exact HB.out))) : w.heap.size ≤ jI)); have n4_ := aC.mk ((by rw [hg]; exact (dU (by repeat (first | (with_reducible first | exact HB.out | apply aQ | apply aT | apply aZ | refine bM ?_ kS.out) | exact HB.out))) : w.heap.size ≤ jI)); have n5_ := aC.mk ((by rw [hg]; exact Nat.ne_of_lt (gJ (g := dD) (o := .cells #[.slice dQ bJ.length dR, .bool cZ, .int .i64 dA, .int .i64 dB, .int .i64 eP, .int .u64 eX, .int .u64 eF, .bool fD, .slice (some qZ) eH.length pX, .int .i64 iH] 33 (0, 0)) (by (with_reducible repeat (first | refine bY ?_ _ | refine bQ ?_ | refine bC ?_ _)); exact bD.out)) : dD ≠ jI)); have n6_ := aC.mk ((by rw [hg]; exact Nat.ne_of_gt (gJ (g := dD) (o := .cells #[.slice dQ bJ.length dR, .bool cZ, .int .i64 dA, .int .i64 dB, .int .i64 eP, .int .u64 eX, .int .u64 eF, .bool fD, .slice (some qZ) eH.length pX, .int .i64 iH] 33 (0, 0)) (by (with_reducible repeat (first | refine bY ?_ _ | refine bQ ?_ | refine bC ?_ _)); exact bD.out)) : jI ≠ dD)); clear bD; clear HB; have bD := n0_; have HB := n1_; have kC := n2_; have qbk := n3_; have JW := n4_; have gG := n5_; have pY := n6_; clear n0_ n1_ n2_ n3_ n4_ n5_ n6_; clear hb hbox hg; have qih := pY.out; have qii := gG.out; have qgM : w33.cell? ⟨jI, 0, none⟩ = some (.int .u64 0) := (aH kC.out 0).trans rfl; have qgN : w33.cell? ⟨jI, 1, none⟩ = some (.string (⟨#[]⟩ : ByteArray)) := (aH kC.out 1).trans rfl; have qgO : w33.cell? ⟨jI, 2, none⟩ = some (.bool false) := (aH kC.out 2).trans rfl; have qgP := aG kC.out 0; have qgQ := aG kC.out 1; have qgR := aG kC.out 2))
                  go_roundg k2
                  case measure => have := HJ1.out; have := HK2.out; omega
                  case rel => exact ⟨(false), (IntKind.u64.wrap (((dN eH fJ).f0) + 1)), (wrap64 (fJ + 1)), (by first | rfl | (simp; done) | (simp [*]; done)), (by first | rfl | (simp; done) | (simp [*]; done)), (by first | rfl | (simp; done) | (simp [*]; done)), H', ⟨by have := HJ1.out; have := HK2.out; omega⟩, ⟨by (with_reducible repeat (first | refine bY ?_ _ | refine bQ ?_ | refine bC ?_ _)); refine dO ?_ gG.out _; (with_reducible repeat (first | refine bY ?_ _ | refine bQ ?_ | refine bC ?_ _)); refine dO ?_ gG.out _; (with_reducible repeat (first | refine bY ?_ _ | refine bQ ?_ | refine bC ?_ _)); refine dO ?_ gG.out _; (with_reducible repeat (first | refine bY ?_ _ | refine bQ ?_ | refine bC ?_ _)); exact bD.out⟩, ⟨by repeat (first | (with_reducible first | exact HB.out | apply aQ | apply aT | apply aZ | refine bM ?_ kS.out | refine bM ?_ JW.out) | exact HB.out)⟩⟩
              · rw [if_neg c19] at H
                exact absurd H (by simp)
            · rw [if_neg c18] at H
              exact absurd H (by simp)
          · rw [if_neg c17] at H
            have qex : decide (fJ < (eH.length : Int)) = false := decide_eq_false c17
            clear c17
            by_cases c36 : qbj = true
            · subst c36
              have H1 : (some 0) = some r := by rw [if_pos rfl] at H; exact H
              clear H
              have H := H1
              clear H1
              obtain rfl := Option.some.inj H
              go_wp2
              go_ret
              exact ⟨by first | rfl | (simp [gK, gQ] <;> rfl) | (simp [*, gK, gQ] <;> rfl), by repeat (first | (with_reducible first | exact HB.out | apply aQ | apply aT | apply aZ | refine bM ?_ kS.out) | exact HB.out)⟩
            · replace c36 := Bool.eq_false_iff.mpr c36
              subst c36
              have H1 : (some 6) = some r := by rw [if_neg (show ¬ (false = true) by decide)] at H; exact H
              clear H
              have H := H1
              clear H1
              obtain rfl := Option.some.inj H
              go_wp2
              go_ret
              exact ⟨by first | rfl | (simp [gK, gQ] <;> rfl) | (simp [*, gK, gQ] <;> rfl), by repeat (first | (with_reducible first | exact HB.out | apply aQ | apply aT | apply aZ | refine bM ?_ kS.out) | exact HB.out)⟩
end Go.Proofs.U
namespace Go.Proofs.U
open Go.RowKit Go.Proofs.aA.aK Go.Proofs.aA.aW Go.Proofs.aA.aX Go.Proofs.Sp Go.Proofs.gB
def oH (nx : Int) : Int → List S41 → Prop
 | _, [] => True
 | least, e :: r => e.f1.size < 65536 ∧ least ≤ e.f0 ∧ e.f0 < nx ∧ oH nx (e.f0 + 1) r
def okQ (Q : Qu) : Prop := okL Q.L ∧ 1 ≤ Q.most ∧ Q.most ≤ 1024 ∧ Q.es.length ≤ 1024 ∧ oH Q.L.nx Q.L.fr Q.es
def Qz : Qu := ⟨Lz, [], 0⟩
theorem qbl {l : List S41} {i : Nat} {x : S41} (hx : l[i]? = some x) : dN l (i : Int) = x := by
 simp [dN, List.getD, hx]
open Classical in
theorem JX (l : List S67) (dn : Bool) (fu fa size fr nx : Int) (br : Bool) (es : List S41) (most : Int) (hl : es.length ≤ 9223372036854775807) : ∀ (f i : Nat) (ok : Bool) (least : Int), i ≤ es.length → es.length - i < f → (ok = true → 0 ≤ least ∧ nx ≤ 4611686018427387904) →
    bP.l0 f ok least es (es.length : Int) (i : Int) l dn fu fa size fr nx br es most = some (if ok = true ∧ oH nx least (es.drop i) then 0 else 6)
  | 0, i, ok, least, hi, hf, hk => by omega
  | f + 1, i, ok, least, hi, hf, hk => by
    rw [bP.l0]
    by_cases h : i < es.length
    · obtain ⟨x, hx⟩ : ∃ x, es[i]? = some x := ⟨_, List.getElem?_eq_getElem h⟩
      have hd : es.drop i = x :: es.drop (i + 1) := by
        rw [List.drop_eq_getElem_cons h]
        congr 1
        rw [List.getElem?_eq_getElem h] at hx
        exact Option.some.inj hx
      rw [if_pos (by omega), if_pos (by omega), if_pos (by omega), qbl hx, hd]
      have e : wrap64 ((i : Int) + 1) = ((i + 1 : Nat) : Int) := by
        unfold wrap64
        omega
      rw [e]
      have ih := fun ok least => JX l dn fu fa size fr nx br es most hl f (i + 1) ok least (by omega) (by omega)
      cases ok with
      | false =>
        rw [if_neg (by simp), ih false _ (fun h => by cases h), if_neg (by simp), if_neg (by simp)]
      | true =>
        obtain ⟨hk0, hk1⟩ := hk rfl
        rw [if_pos rfl]
        by_cases h1 : (x.f1.size : Int) < 65536
        · rw [if_pos h1]
          by_cases h2 : x.f0 ≥ least
          · rw [if_pos h2]
            by_cases h3 : x.f0 < nx
            · have ew : IntKind.u64.wrap (x.f0 + 1) = x.f0 + 1 := by
                rw [IntKind.wrap_u64]
                omega
              rw [ew, decide_eq_true h3, ih true _ (fun _ => ⟨by omega, hk1⟩)]
              congr 1
              by_cases h4 : oH nx (x.f0 + 1) (es.drop (i + 1))
              · rw [if_pos ⟨rfl, h4⟩, if_pos ⟨rfl, by omega, by omega, h3, h4⟩]
              · rw [if_neg (fun g => h4 g.2), if_neg (fun g => h4 g.2.2.2.2)]
            · rw [decide_eq_false h3, ih false _ (fun h => by cases h), if_neg (by simp), if_neg (fun g => h3 g.2.2.2.1)]
          · rw [if_neg h2, ih false _ (fun h => by cases h), if_neg (by simp), if_neg (fun g => h2 g.2.2.1)]
        · rw [if_neg h1, ih false _ (fun h => by cases h), if_neg (by simp), if_neg (fun g => h1 (by have := g.2.1; omega))]
    · rw [if_neg (by omega), List.drop_eq_nil_of_le (by omega)]
      cases ok
      · rfl
      · rw [if_pos rfl, if_pos ⟨rfl, trivial⟩]
open Classical in
theorem yH (Q : Qu) (h0 : 0 ≤ Q.L.fr) (hl : Q.es.length ≤ 9223372036854775807) :
    bP.f (Q.es.length + 3) Q.L.l Q.L.dn Q.L.fu Q.L.fa Q.L.size Q.L.fr Q.L.nx Q.L.br Q.es Q.most = some (if okQ Q then 0 else 6) := by
  obtain ⟨⟨l, dn, fu, fa, size, fr, nx, br⟩, es, most⟩ := Q
  simp only at h0 hl ⊢
  rw [bP.f]
  have hc := xC ⟨l, dn, fu, fa, size, fr, nx, br⟩
  simp only at hc
  rw [hc, Option.bind_some]
  by_cases hL : okL ⟨l, dn, fu, fa, size, fr, nx, br⟩
  · rw [if_pos hL, if_pos rfl]
    have hnx : nx ≤ 4611686018427387904 := hL.2.2.2.2
    have hj : ∀ ok : Bool, bP.j0 (es.length + 3) ok l dn fu fa size fr nx br es most = some (if ok = true ∧ oH nx fr es then 0 else 6) := fun ok => by
      rw [bP.j0]
      have := JX l dn fu fa size fr nx br es most hl (es.length + 2) 0 ok fr (by omega) (by omega) (fun _ => ⟨h0, hnx⟩)
      rw [List.drop_zero] at this
      exact this
    by_cases hm : most ≥ 1
    · rw [if_pos hm, hj]
      congr 1
      by_cases hx : mx most (es.length : Int) ≤ 1024
      · rw [decide_eq_true hx]
        have h2 : most ≤ 1024 ∧ es.length ≤ 1024 := by
          unfold mx at hx
          split at hx <;> omega
        by_cases h3 : oH nx fr es
        · rw [if_pos ⟨rfl, h3⟩, if_pos ⟨hL, hm, h2.1, h2.2, h3⟩]
        · rw [if_neg (fun g => h3 g.2), if_neg (fun g => h3 g.2.2.2.2)]
      · rw [decide_eq_false hx, if_neg (by simp), if_neg (fun g => hx ?_)]
        have g1 := g.2.2.1
        have g2 := g.2.2.2.1
        simp only at g1 g2
        unfold mx
        split <;> omega
    · rw [if_neg hm, hj, if_neg (by simp), if_neg (fun g => hm g.2.1)]
  · rw [if_neg hL, if_neg (by decide)]
    rw [bP.j0]
    have := JX l dn fu fa size fr nx br es most hl (es.length + 2) 0 false fr (by omega) (by omega) (fun h => by cases h)
    simp only [Int.natCast_zero] at this ⊢
    rw [this, if_neg (by simp), if_neg (fun g => hL g.1)]
theorem xH {P : Program} {fn : Func} {R : Ending → World → Prop} {t t' : Array Value} (h : ∀ w, (results fn t).run P w = (results fn t').run P w) : ∀ (ds : List Deferred) (u : FrameMode) (w : World), Leaves P fn t R ds u w → Leaves P fn t' R ds u w
 | [], .returning, w, ⟨v, hv, hR⟩ => ⟨v, by rw [← h]; exact hv, hR⟩
 | [], .panicking _, w, hR => hR
 | [], .run, w, hR => hR
 | d :: ds, u, w, ⟨hu, fv, cap, f, args, h1, h2, h3⟩ => ⟨hu, fv, cap, f, args, h1, h2, h3.mono fun e u' w' hh => by
  cases e with
  | returned v => exact xH h ds _ _ hh
  | panicked c => exact xH h ds _ _ hh
  | outgrown => exact hh⟩
theorem jX {N : Tmp} {v : Value} {c : List PanicEntry} {a : Act} {w : World} {R : Ending → World → Prop} (h4 : N ≠ 4) (h5 : N ≠ 5) (h : Leaves Tryz.prog Tryz.f52 (a.put (some N) v).tmps R (a.put (some N) v).defers (.panicking c) w) :
  Leaves Tryz.prog Tryz.f52 a.tmps R a.defers (.panicking c) w := by
 refine xH (fun w => ?_) _ _ _ h
 have e4 : (a.tmps.setIfInBounds N v)[4]? = a.tmps[4]? := Array.getElem?_setIfInBounds_ne h4
 have e5 : (a.tmps.setIfInBounds N v)[5]? = a.tmps[5]? := Array.getElem?_setIfInBounds_ne h5
 simp [results, Tryz.results52, Act.put, e4, e5]
set_option maxHeartbeats 4000000 in
theorem RJ (g2 g4 g5 : Nat) (w : World) :
  CallsD Tryz.prog 101 #[.pointer (some ⟨g2, 0, none⟩), .pointer (some ⟨g4, 0, none⟩), .pointer (some ⟨g5, 0, none⟩)] .returning w fun e u' w' => e = .returned (.tuple #[]) ∧ u' = .returning ∧ w' = w := by
 refine callsD_of_wpS Tryz.func101 rfl fun c₀ cs hu => ?_
 apply wpS_seq
 apply wpS_region
 simp [wpOpsS, go_sem, recoverD, hu, Tryz.ntmps101, Exit.thenS]
 apply wpS_seq
 apply wpS_region
 simp [wpOpsS, go_sem, recoverD, hu, Tryz.ntmps101, Exit.thenS]
 refine wpS_cond (t := false) (by simp [Act.eval, Array.replicate]) ?_
 simp only [Bool.false_eq_true, if_false]
 refine wpS_of_wp (wp_skip ?_)
 cases c₀
 simp_all [bodyPostS, results, Tryz.results101]
set_option maxHeartbeats 4000000 in
theorem uN {b w : World} {rs : List Res} (g2 g4 g5 gl : Nat) (x5 : Value) (A : Option Addr) (c : Nat) (B : Option Addr) (d : Nat) (Q : Qu) (n : Int) (older : List PanicEntry) (H0 : aC (Sep b w (box g5 [x5] 34 :: box g4 [.slice none 0 0, .bool false, .int .i64 0, .int .i64 0, .int .i64 0, .int .u64 0, .int .u64 0, .bool false, .slice none 0 0, .int .i64 0] 33 :: box g2 [.pointer (some ⟨gl, 0, none⟩)] 98 :: box gl (qc A c B d Q) 101 :: rs))) :
  CallsD Tryz.prog 101 #[.pointer (some ⟨g2, 0, none⟩), .pointer (some ⟨g4, 0, none⟩), .pointer (some ⟨g5, 0, none⟩)] (.panicking ({ v := .iface 34 (.int .i64 n), recovered := false } :: older)) w fun e u' w' => e = .returned (.tuple #[]) ∧ u' = .panicking ({ v := .iface 34 (.int .i64 n), recovered := true } :: older) ∧ aC (Sep b w' (box g5 [.int .i64 n] 34 :: box g4 (qc A c B d Q) 33 :: box g2 [.pointer (some ⟨gl, 0, none⟩)] 98 :: box gl (qc A c B d Q) 101 :: rs)) := by
 have H : aC (Sep b w (box g5 [x5] 34 :: box g4 [.slice none 0 0, .bool false, .int .i64 0, .int .i64 0, .int .i64 0, .int .u64 0, .int .u64 0, .bool false, .slice none 0 0, .int .i64 0] 33 :: box g2 [.pointer (some ⟨gl, 0, none⟩)] 98 :: box gl [.slice A Q.L.l.length c, .bool Q.L.dn, .int .i64 Q.L.fu, .int .i64 Q.L.fa, .int .i64 Q.L.size, .int .u64 Q.L.fr, .int .u64 Q.L.nx, .bool Q.L.br, .slice B Q.es.length d, .int .i64 Q.most] 101 :: rs)) := H0
 clear H0
 have c_5 := H.out.cell (g := g5) aP
 have z_5 := H.out.frozen (g := g5) aP
 have c_4 := H.out.cell (g := g4) mem1
 have z_4 := H.out.frozen (g := g4) mem1
 have c_2 := H.out.cell (g := g2) mem2
 have z_2 := H.out.frozen (g := g2) mem2
 have c_l := H.out.cell (g := gl) mem3
 have z_l := H.out.frozen (g := gl) mem3
 have hta : ∀ w, (Instr.typeAssert (.iface 34 (.int .i64 n)) 20 34 false).run Tryz.prog w = .ok (.int .i64 n) w := fun w => by simp [Instr.typeAssert, go_sem, Tryz.underlying34]
 have hne : ¬ g5 = g4 := (List.pairwise_cons.1 H.out.apart).1 _ (List.mem_cons_self ..) g5 rfl
 have hne2 : ¬ g4 = g5 := fun e => hne e.symm
 refine callsD_of_wpS Tryz.func101 rfl fun c₀ cs hu => ?_
 simp only [List.size_toArray, List.length_cons, List.length_nil, Tryz.ntmps101, Nat.reduceAdd, Nat.reduceSub, Array.replicate_succ, Array.replicate_zero, List.push_toArray, List.append_toArray, List.nil_append, List.cons_append]
 apply wpS_seq
 apply wpS_region
 simp [wpOpsS, go_sem, recoverD, hu, Tryz.ntmps101, Exit.thenS]
 apply wpS_seq
 apply wpS_region
 simp [wpOpsS, go_sem, recoverD, hu, Tryz.ntmps101, Exit.thenS]
 refine wpS_cond (t := true) (by simp [Act.eval, Array.replicate]) ?_
 simp only [if_true]
 refine wpS_of_wp ?_
 go_region
 have h9 : Sep b _ (box g5 [.int .i64 n] 34 :: box g4 [.slice A Q.L.l.length c, .bool Q.L.dn, .int .i64 Q.L.fu, .int .i64 Q.L.fa, .int .i64 Q.L.size, .int .u64 Q.L.fr, .int .u64 Q.L.nx, .bool Q.L.br, .slice B Q.es.length d, .int .i64 Q.most] 33 :: box g2 [.pointer (some ⟨gl, 0, none⟩)] 98 :: box gl [.slice A Q.L.l.length c, .bool Q.L.dn, .int .i64 Q.L.fu, .int .i64 Q.L.fa, .int .i64 Q.L.size, .int .u64 Q.L.fr, .int .u64 Q.L.nx, .bool Q.L.br, .slice B Q.es.length d, .int .i64 Q.most] 101 :: rs) := (Sep.drew (Sep.set0 (Sep.set1 (Sep.set1 (Sep.set1 (Sep.set1 (Sep.set1 (Sep.set1 (Sep.set1 (Sep.set1 (Sep.set1 (Sep.set1 H.out 0 (.slice A Q.L.l.length c) rfl) 1 (.bool Q.L.dn) rfl) 2 (.int .i64 Q.L.fu) rfl) 3 (.int .i64 Q.L.fa) rfl) 4 (.int .i64 Q.L.size) rfl) 5 (.int .u64 Q.L.fr) rfl) 6 (.int .u64 Q.L.nx) rfl) 7 (.bool Q.L.br) rfl) 8 (.slice B Q.es.length d) rfl) 9 (.int .i64 Q.most) rfl) 0 (.int .i64 n) rfl))
 cases c₀
 exact ⟨rfl, _, rfl, _, results_none rfl _ _ _, rfl, rfl, ⟨h9⟩⟩
def yS (b : World) (fdo : Nat) (lb : List Value) (Q : Qu) (rs rs' : List Res) (R : Qu) (n : Int) : Prop :=
 ∀ (gl : Nat) (A : Option Addr) (c : Nat) (B : Option Addr) (d : Nat) (w : World) (ts : List Res), aC (Sep b w (box gl (qc A c B d Q) 101 :: lV A c Q.L.l :: rG B d Q.es :: (rs ++ ts))) →
  Calls Tryz.prog fdo (.pointer (some ⟨gl, 0, none⟩) :: lb).toArray w fun e w' => Ends n e ∧ ∃ A' c' B' d', aC (Sep b w' (box gl (qc A' c' B' d' R) 101 :: lV A' c' R.L.l :: rG B' d' R.es :: (rs' ++ ts)))
set_option maxHeartbeats 8000000 in
theorem vP {b w : World} {rs rs' : List Res} {fdo : Nat} {lb : List Value} (A : Option Addr) (c : Nat) (B : Option Addr) (d : Nat) (Q : Qu) (R : Qu) (n : Int) (hr : Kd.C k67 b A Q.L.l.length Q.L.l) (hc : Q.L.l.length ≤ c) (hre : Kd.C k41 b B Q.es.length Q.es) (hce : Q.es.length ≤ d) (h0 : 0 ≤ Q.L.fr)
  (he : ∀ args w, (callFunc fdo args).run Tryz.prog w = .ok (.enter fdo args) w) (H0 : aC (Sep b w rs))
  (hdo : (¬ okQ Q ∧ R = Qz ∧ n = 6 ∧ rs' = rs) ∨ (okQ Q ∧ Q.L.br = true ∧ R = Q ∧ n = 6 ∧ rs' = rs) ∨ (okQ Q ∧ Q.L.br = false ∧ yS b fdo lb Q rs rs' R n)) :
  Calls Tryz.prog 52 #[.agg (qc A c B d Q).toArray, .func (.func fdo) #[] lb.toArray] w fun e w' => ∃ A' c' B' d', e = .returned (.tuple #[.agg (qc A' c' B' d' R).toArray, .int .i64 n]) ∧ aC (Sep b w' (lV A' c' R.L.l :: rG B' d' R.es :: rs')) := by
 have HRp := aC.mk hr
 have HCp := aC.mk hc
 have HRe := aC.mk hre
 have HCe := aC.mk hce
 have HF0 := aC.mk h0
 have HEL : aC (Q.es.length ≤ 9223372036854775807) := ⟨Kd.VO hre⟩
 have hmf : ∀ (fn : Fn) (first cap : Array Value) (w : World), (Instr.makeFunc fn first cap).run Tryz.prog w = .ok (.func fn first cap) w := fun _ _ _ _ => rfl
 have H : aC (Sep b w rs) := H0
 have HDO := aC.mk hdo
 clear hr hc hre hce h0 H0 hdo
 simp only [qc, lgc, List.cons_append, List.nil_append]
 go_enter_defers Tryz.func52, Tryz.ntmps52
 go_wp2_with (first
 |((with_reducible refine aU (N := 2) rfl ?_);
   refine bK rfl H (cs := [.slice A Q.L.l.length c, .bool Q.L.dn, .int .i64 Q.L.fu, .int .i64 Q.L.fa, .int .i64 Q.L.size, .int .u64 Q.L.fr, .int .u64 Q.L.nx, .bool Q.L.br, .slice B Q.es.length d, .int .i64 Q.most]) (t := 33) ?hr ?_;
   (case hr => first | (go_simp; done) | (go_simp; rfl));
   intro gq wd1 n_;
   simp only [Act.put, zA, zZ, zS];
   clear H;
   have H := n_;
   clear n_;
   have c_q := H.out.cell (g := gq) aP)
 |((with_reducible refine aU (N := 4) rfl ?_);
   refine bK rfl H (cs := [.slice none 0 0, .bool false, .int .i64 0, .int .i64 0, .int .i64 0, .int .u64 0, .int .u64 0, .bool false, .slice none 0 0, .int .i64 0]) (t := 33) ?hr ?_;
   (case hr => first | (go_simp; done) | (go_simp; rfl));
   intro g4 wd2 n_;
   simp only [Act.put, zA, zZ, zS];
   clear H c_q;
   have H := n_;
   clear n_;
   have c_4 := H.out.cell (g := g4) aP;
   have c_q := H.out.cell (g := gq) mem1)
 |((with_reducible refine aU (N := 5) rfl ?_);
   refine bK rfl H (cs := [.int .i64 0]) (t := 34) ?hr ?_;
   (case hr => first | (go_simp; done) | (go_simp; rfl));
   intro g5 wd3 n_;
   simp only [Act.put, zA, zZ, zS];
   clear H c_4 c_q;
   have H := n_;
   clear n_;
   have c_5 := H.out.cell (g := g5) aP;
   have c_4 := H.out.cell (g := g4) mem1;
   have c_q := H.out.cell (g := gq) mem2)
 |fail)
 by_cases hok : okQ Q
 ·
  refine ((bP.calls (Q.es.length + 3) A c Q.L.l Q.L.dn Q.L.fu Q.L.fa Q.L.size Q.L.fr Q.L.nx Q.L.br B d Q.es Q.most 0 _ (H.out.came HRp.out) HCp.out (H.out.came HRe.out) HCe.out (by have h := yH Q HF0.out HEL.out; rw [if_pos hok] at h; exact h)).mono ?_)
  rintro e wd4 ⟨rfl, hb_⟩
  have n_ : aC (Sep b wd4 (box g5 [.int .i64 0] 34 :: box g4 [.slice none 0 0, .bool false, .int .i64 0, .int .i64 0, .int .i64 0, .int .u64 0, .int .u64 0, .bool false, .slice none 0 0, .int .i64 0] 33 :: box gq [.slice A Q.L.l.length c, .bool Q.L.dn, .int .i64 Q.L.fu, .int .i64 Q.L.fa, .int .i64 Q.L.size, .int .u64 Q.L.fr, .int .u64 Q.L.nx, .bool Q.L.br, .slice B Q.es.length d, .int .i64 Q.most] 33 :: rs)) := ⟨H.out.step hb_⟩
  clear H c_5 c_4 c_q
  have H := n_
  clear n_
  have c_5 := H.out.cell (g := g5) aP
  have c_4 := H.out.cell (g := g4) mem1
  have c_q := H.out.cell (g := gq) mem2
  clear hb_
  have hfl : Q.L.l.length ≤ 64 := jZ hok.1.1
  have hel : Q.es.length ≤ 1024 := hok.2.2.2.1
  have HFL := aC.mk hfl
  have qhB := aC.mk hel
  have HOK := aC.mk hok
  clear hok hfl hel
  go_upto_region 4 with (first
 |((with_reducible refine aU (N := 13) rfl ?_);
   refine bK rfl H (cs := [.slice A Q.L.l.length c, .bool Q.L.dn, .int .i64 Q.L.fu, .int .i64 Q.L.fa, .int .i64 Q.L.size, .int .u64 Q.L.fr, .int .u64 Q.L.nx, .bool Q.L.br, .slice B Q.es.length d, .int .i64 Q.most]) (t := 101) ?hr ?_;
   (case hr => first | (go_simp; done) | (go_simp; rfl));
   intro gl wd5 n_;
   simp only [Act.put, zA, zZ, zS];
   clear H c_5 c_4 c_q;
   have H := n_;
   clear n_;
   have c_l := H.out.cell (g := gl) aP;
   have c_5 := H.out.cell (g := g5) mem1;
   have c_4 := H.out.cell (g := g4) mem2;
   have c_q := H.out.cell (g := gq) mem3)
 |((with_reducible refine aU (N := 6) rfl ?_);
   refine bK rfl H (cs := [.pointer none]) (t := 98) ?hr ?_;
   (case hr => first | (go_simp; done) | (go_simp; rfl));
   intro gv wd6 n_;
   simp only [Act.put, zA, zZ, zS];
   clear H c_l c_5 c_4 c_q;
   have H := n_;
   clear n_;
   have c_v := H.out.cell (g := gv) aP;
   have z_v := H.out.frozen (g := gv) aP;
   have c_l := H.out.cell (g := gl) mem1;
   have c_5 := H.out.cell (g := g5) mem2;
   have c_4 := H.out.cell (g := g4) mem3;
   have c_q := H.out.cell (g := gq) bT)
 |((with_reducible refine aV (t := 98) (p := 6) rfl ?_);
   refine bH (rs1 := (box gv [.pointer (some ⟨gl, 0, none⟩)] 98 :: box gl [.slice A Q.L.l.length c, .bool Q.L.dn, .int .i64 Q.L.fu, .int .i64 Q.L.fa, .int .i64 Q.L.size, .int .u64 Q.L.fr, .int .u64 Q.L.nx, .bool Q.L.br, .slice B Q.es.length d, .int .i64 Q.most] 101 :: box g5 [.int .i64 0] 34 :: box g4 [.slice none 0 0, .bool false, .int .i64 0, .int .i64 0, .int .i64 0, .int .u64 0, .int .u64 0, .bool false, .slice none 0 0, .int .i64 0] 33 :: box gq [.slice A Q.L.l.length c, .bool Q.L.dn, .int .i64 Q.L.fu, .int .i64 Q.L.fa, .int .i64 Q.L.size, .int .u64 Q.L.fr, .int .u64 Q.L.nx, .bool Q.L.br, .slice B Q.es.length d, .int .i64 Q.most] 33 :: rs)) rfl (t := 98) (p := 6) rfl rfl ?hr (H1 := (Sep.set0 H.out 0 (.pointer (some ⟨gl, 0, none⟩)) rfl)) ?_;
   (case hr => first | (go_simp; done) | (go_simp; rfl));
   intro wd7 n_;
   clear H c_v z_v c_l c_5 c_4 c_q;
   have H := n_;
   clear n_;
   have c_v := H.out.cell (g := gv) aP;
   have z_v := H.out.frozen (g := gv) aP;
   have c_l := H.out.cell (g := gl) mem1;
   have c_5 := H.out.cell (g := g5) mem2;
   have c_4 := H.out.cell (g := g4) mem3;
   have c_q := H.out.cell (g := gq) bT)
 |fail)
  clear c_v z_v c_l c_5 c_4 c_q
  have c_v := H.out.cell (g := gv) aP
  have c_l := H.out.cell (g := gl) mem1
  have z_l := H.out.frozen (g := gl) mem1
  have c_5 := H.out.cell (g := g5) mem2
  have c_4 := H.out.cell (g := g4) mem3
  have c_q := H.out.cell (g := gq) bT
  refine fO (n := 8) (S := fun w' => (∀ j : Nat, w'.cell? ⟨gv, j, none⟩ = [.pointer (some ⟨gl, 0, none⟩)][j]?) ∧ (∀ j : Nat, w'.cell? ⟨gq, j, none⟩ = [.slice A Q.L.l.length c, .bool Q.L.dn, .int .i64 Q.L.fu, .int .i64 Q.L.fa, .int .i64 Q.L.size, .int .u64 Q.L.fr, .int .u64 Q.L.nx, .bool Q.L.br, .slice B Q.es.length d, .int .i64 Q.most][j]?) ∧ (∀ j : Nat, w'.frozen? ⟨gl, j, none⟩ = false) ∧ Sp.Sep b w' (box gv [.pointer (some ⟨gl, 0, none⟩)] 98 :: box gl [.slice A Q.L.l.length c, .bool Q.L.dn, .int .i64 Q.L.fu, .int .i64 Q.L.fa, .int .i64 Q.L.size, .int .u64 Q.L.fr, .int .u64 Q.L.nx, .bool Q.L.br, .slice B Q.es.length d, .int .i64 Q.most] 101 :: box g5 [.int .i64 0] 34 :: box g4 [.slice none 0 0, .bool false, .int .i64 0, .int .i64 0, .int .i64 0, .int .u64 0, .int .u64 0, .bool false, .slice none 0 0, .int .i64 0] 33 :: box gq [.slice A Q.L.l.length c, .bool Q.L.dn, .int .i64 Q.L.fu, .int .i64 Q.L.fa, .int .i64 Q.L.size, .int .u64 Q.L.fr, .int .u64 Q.L.nx, .bool Q.L.br, .slice B Q.es.length d, .int .i64 Q.most] 33 :: rs)) (ds := [7]) #[false, false, false, false, false, false, false, false] (by kernel_rfl) rfl rfl ⟨(fun j => ((Sep.drew H.out)).cell (g := gv) aP j), (fun j => ((Sep.drew H.out)).cell (g := gq) bT j), (fun j => ((Sep.drew H.out)).frozen (g := gl) mem1 j), (Sep.drew H.out)⟩ (fun hHeld => ?_)
  refine puS (i := 1) (N := some 15) (v := ?_) (a' := ?_) rfl rfl (by kernel_rfl) (fun _ _ _ h => jX (N := 15) (by decide) (by decide) h) (Or.inl ⟨by rfl, ?_⟩) ?_ ?_
  rotate_left
  ·intro w'
   go_simp
   with_reducible rfl
  rotate_left
  ·simp only [Act.put, zA, zZ, zS, aI, aJ]
   rfl
  refine tkS (i := 0) (N := some 14) (v := ?_) (a' := ?_) rfl rfl (by kernel_rfl) (fun _ _ _ h => jX (N := 14) (by decide) (by decide) h) (Or.inl ⟨by rfl, ?_⟩) hHeld ?_ ?_
  rotate_left
  ·rintro w' ⟨s0, s1, s2, s3⟩
   go_simp
   with_reducible rfl
  rotate_left
  ·simp only [Act.put, zA, zZ, zS, aI, aJ]
   rfl
  refine tkS (i := 2) (N := some 16) (v := ?_) (a' := ?_) rfl rfl (by kernel_rfl) (fun _ _ _ h => jX (N := 16) (by decide) (by decide) h) (Or.inl ⟨by rfl, ?_⟩) hHeld ?_ ?_
  rotate_left
  ·rintro w' ⟨s0, s1, s2, s3⟩
   go_simp
   with_reducible rfl
  rotate_left
  ·simp only [Act.put, zA, zZ, zS, aI, aJ]
   rfl
  refine onS (i := 3) (N := some 17) rfl rfl (by kernel_rfl) (by decide) (fun K hK => ?_)
  refine oC Tryz.func100 (by kernel_rfl) rfl #[.slice B Q.es.length d] (by rfl) rfl rfl (by simp only [List.map_toArray, List.map_cons, List.map_nil]; rfl) ?_
  with_reducible refine (qbc B d Q.es _ (Sep.came hHeld.2.2.2 HRe.out) HCe.out qhB.out).mono ?_
  rintro e w5 ⟨Ae, ce, rfl, HJ⟩
  have HN := fM hHeld.2.2.2 HJ.out
  have f5 := fun j => HN.frozen (g := gl) mem2 j
  have k5 := fun j => HN.cell (g := gl) mem2 j
  refine ⟨_, rfl, ?_⟩
  refine hK.out _ _ ⟨(fun j => HN.cell (g := gv) mem1 j), (fun j => HN.cell (g := gq) dM j), f5, HN.eG⟩ (fun hHeld => ?_)
  clear hK K
  refine fE (a' := ?_) ?_ ?_
  rotate_left
  ·show Act.put _ (some 17) _ = _
   simp only [Act.put, zA, zZ, zS, aI, aJ]
   rfl
  refine puS (i := 4) (N := some 18) (v := ?_) (a' := ?_) rfl rfl (by kernel_rfl) (fun _ _ _ h => jX (N := 18) (by decide) (by decide) h) (Or.inl ⟨by rfl, ?_⟩) ?_ ?_
  rotate_left
  ·intro w'
   go_simp
   with_reducible rfl
  rotate_left
  ·simp only [Act.put, zA, zZ, zS, aI, aJ]
   rfl
  refine puS (i := 5) (N := some 19) (v := ?_) (a' := ?_) rfl rfl (by kernel_rfl) (fun _ _ _ h => jX (N := 19) (by decide) (by decide) h) (Or.inl ⟨by rfl, ?_⟩) ?_ ?_
  rotate_left
  ·intro w'
   go_simp
   with_reducible rfl
  rotate_left
  ·simp only [Act.put, zA, zZ, zS, aI, aJ]
   rfl
  refine puS (i := 6) (N := some 20) (v := ?_) (a' := ?_) rfl rfl (by kernel_rfl) (fun _ _ _ h => jX (N := 20) (by decide) (by decide) h) (Or.inl ⟨by rfl, ?_⟩) ?_ ?_
  rotate_left
  ·intro w'
   go_simp
   with_reducible rfl
  rotate_left
  ·simp only [Act.put, zA, zZ, zS, aI, aJ]
   rfl
  refine laS (i := 7) (N := none) rfl rfl (by kernel_rfl) (by decide) (fun K hK => ?_)
  refine wG (w1 := ?_) (by rfl) rfl ?_ ?_
  rotate_left
  ·go_simp
   rfl
  refine hK.out _ _ ?_
  clear hK K
  refine iT (by kernel_rfl) ?_
  refine qI (rs := (row k41 41 (.slice Ae (Q.es).length ce) Q.es :: box gv [.pointer (some ⟨gl, 0, none⟩)] 98 :: box gl [.slice A Q.L.l.length c, .bool Q.L.dn, .int .i64 Q.L.fu, .int .i64 Q.L.fa, .int .i64 Q.L.size, .int .u64 Q.L.fr, .int .u64 Q.L.nx, .bool Q.L.br, .slice Ae Q.es.length ce, .int .i64 Q.most] 101 :: box g5 [.int .i64 0] 34 :: box g4 [.slice none 0 0, .bool false, .int .i64 0, .int .i64 0, .int .i64 0, .int .u64 0, .int .u64 0, .bool false, .slice none 0 0, .int .i64 0] 33 :: box gq [.slice A Q.L.l.length c, .bool Q.L.dn, .int .i64 Q.L.fu, .int .i64 Q.L.fa, .int .i64 Q.L.size, .int .u64 Q.L.fr, .int .u64 Q.L.nx, .bool Q.L.br, .slice B Q.es.length d, .int .i64 Q.most] 33 :: rs)) (Sep.set2 HN 8 (.slice Ae Q.es.length ce) rfl) ?_
  clear HN f5 k5 HJ
  intro wd8 n_
  clear H c_v c_l z_l c_5 c_4 c_q
  have H := n_
  clear n_
  have c_v := H.out.cell (g := gv) mem1
  have c_l := H.out.cell (g := gl) mem2
  have z_l := H.out.frozen (g := gl) mem2
  have c_5 := H.out.cell (g := g5) mem3
  have c_4 := H.out.cell (g := g4) bT
  have c_q := H.out.cell (g := gq) dM
  go_upto_region 5 with fail
  refine fO (n := 12) (S := fun w' => (∀ j : Nat, w'.cell? ⟨gv, j, none⟩ = [.pointer (some ⟨gl, 0, none⟩)][j]?) ∧ (∀ j : Nat, w'.cell? ⟨gq, j, none⟩ = [.slice A Q.L.l.length c, .bool Q.L.dn, .int .i64 Q.L.fu, .int .i64 Q.L.fa, .int .i64 Q.L.size, .int .u64 Q.L.fr, .int .u64 Q.L.nx, .bool Q.L.br, .slice B Q.es.length d, .int .i64 Q.most][j]?) ∧ (∀ j : Nat, w'.frozen? ⟨gl, j, none⟩ = false) ∧ Sp.Sep b w' (row k41 41 (.slice Ae (Q.es).length ce) Q.es :: box gv [.pointer (some ⟨gl, 0, none⟩)] 98 :: box gl [.slice A Q.L.l.length c, .bool Q.L.dn, .int .i64 Q.L.fu, .int .i64 Q.L.fa, .int .i64 Q.L.size, .int .u64 Q.L.fr, .int .u64 Q.L.nx, .bool Q.L.br, .slice Ae Q.es.length ce, .int .i64 Q.most] 101 :: box g5 [.int .i64 0] 34 :: box g4 [.slice none 0 0, .bool false, .int .i64 0, .int .i64 0, .int .i64 0, .int .u64 0, .int .u64 0, .bool false, .slice none 0 0, .int .i64 0] 33 :: box gq [.slice A Q.L.l.length c, .bool Q.L.dn, .int .i64 Q.L.fu, .int .i64 Q.L.fa, .int .i64 Q.L.size, .int .u64 Q.L.fr, .int .u64 Q.L.nx, .bool Q.L.br, .slice B Q.es.length d, .int .i64 Q.most] 33 :: rs)) (ds := [11]) #[false, false, false, false, false, false, false, false, false, false, false, false] (by kernel_rfl) rfl rfl ⟨(fun j => ((Sep.drew H.out)).cell (g := gv) mem1 j), (fun j => ((Sep.drew H.out)).cell (g := gq) dM j), (fun j => ((Sep.drew H.out)).frozen (g := gl) mem2 j), (Sep.drew H.out)⟩ (fun hHeld => ?_)
  refine puS (i := 1) (N := some 22) (v := ?_) (a' := ?_) rfl rfl (by kernel_rfl) (fun _ _ _ h => jX (N := 22) (by decide) (by decide) h) (Or.inl ⟨by rfl, ?_⟩) ?_ ?_
  rotate_left
  ·intro w'
   go_simp
   with_reducible rfl
  rotate_left
  ·simp only [Act.put, zA, zZ, zS, aI, aJ]
   rfl
  refine puS (i := 2) (N := some 23) (v := ?_) (a' := ?_) rfl rfl (by kernel_rfl) (fun _ _ _ h => jX (N := 23) (by decide) (by decide) h) (Or.inl ⟨by rfl, ?_⟩) ?_ ?_
  rotate_left
  ·intro w'
   go_simp
   with_reducible rfl
  rotate_left
  ·simp only [Act.put, zA, zZ, zS, aI, aJ]
   rfl
  refine puS (i := 3) (N := some 24) (v := ?_) (a' := ?_) rfl rfl (by kernel_rfl) (fun _ _ _ h => jX (N := 24) (by decide) (by decide) h) (Or.inl ⟨by rfl, ?_⟩) ?_ ?_
  rotate_left
  ·intro w'
   go_simp
   with_reducible rfl
  rotate_left
  ·simp only [Act.put, zA, zZ, zS, aI, aJ]
   rfl
  refine tkS (i := 0) (N := some 21) (v := ?_) (a' := ?_) rfl rfl (by kernel_rfl) (fun _ _ _ h => jX (N := 21) (by decide) (by decide) h) (Or.inl ⟨by rfl, ?_⟩) hHeld ?_ ?_
  rotate_left
  ·rintro w' ⟨s0, s1, s2, s3⟩
   go_simp
   with_reducible rfl
  rotate_left
  ·simp only [Act.put, zA, zZ, zS, aI, aJ]
   rfl
  refine tkS (i := 4) (N := some 25) (v := ?_) (a' := ?_) rfl rfl (by kernel_rfl) (fun _ _ _ h => jX (N := 25) (by decide) (by decide) h) (Or.inl ⟨by rfl, ?_⟩) hHeld ?_ ?_
  rotate_left
  ·rintro w' ⟨s0, s1, s2, s3⟩
   go_simp
   with_reducible rfl
  rotate_left
  ·simp only [Act.put, zA, zZ, zS, aI, aJ]
   rfl
  refine onS (i := 5) (N := some 26) rfl rfl (by kernel_rfl) (by decide) (fun K hK => ?_)
  refine oC Tryz.func63 (by kernel_rfl) rfl #[.slice A Q.L.l.length c] (by rfl) rfl rfl (by simp only [List.map_toArray, List.map_cons, List.map_nil]; rfl) ?_
  with_reducible refine (qbe A c Q.L.l _ (Sep.came hHeld.2.2.2 HRp.out) HCp.out HFL.out).mono ?_
  rintro e w5 ⟨Af, cf, rfl, HJ⟩
  have HN := fM hHeld.2.2.2 HJ.out
  have f5 := fun j => HN.frozen (g := gl) mem3 j
  have k5 := fun j => HN.cell (g := gl) mem3 j
  refine ⟨_, rfl, ?_⟩
  refine hK.out _ _ ⟨(fun j => HN.cell (g := gv) mem2 j), (fun j => HN.cell (g := gq) jL j), f5, HN.eG⟩ (fun hHeld => ?_)
  clear hK K
  refine fE (a' := ?_) ?_ ?_
  rotate_left
  ·show Act.put _ (some 26) _ = _
   simp only [Act.put, zA, zZ, zS, aI, aJ]
   rfl
  refine puS (i := 6) (N := some 27) (v := ?_) (a' := ?_) rfl rfl (by kernel_rfl) (fun _ _ _ h => jX (N := 27) (by decide) (by decide) h) (Or.inl ⟨by rfl, ?_⟩) ?_ ?_
  rotate_left
  ·intro w'
   go_simp
   with_reducible rfl
  rotate_left
  ·simp only [Act.put, zA, zZ, zS, aI, aJ]
   rfl
  refine puS (i := 7) (N := some 28) (v := ?_) (a' := ?_) rfl rfl (by kernel_rfl) (fun _ _ _ h => jX (N := 28) (by decide) (by decide) h) (Or.inl ⟨by rfl, ?_⟩) ?_ ?_
  rotate_left
  ·intro w'
   go_simp
   with_reducible rfl
  rotate_left
  ·simp only [Act.put, zA, zZ, zS, aI, aJ]
   rfl
  refine puS (i := 8) (N := some 29) (v := ?_) (a' := ?_) rfl rfl (by kernel_rfl) (fun _ _ _ h => jX (N := 29) (by decide) (by decide) h) (Or.inl ⟨by rfl, ?_⟩) ?_ ?_
  rotate_left
  ·intro w'
   go_simp
   with_reducible rfl
  rotate_left
  ·simp only [Act.put, zA, zZ, zS, aI, aJ]
   rfl
  refine puS (i := 9) (N := some 30) (v := ?_) (a' := ?_) rfl rfl (by kernel_rfl) (fun _ _ _ h => jX (N := 30) (by decide) (by decide) h) (Or.inl ⟨by rfl, ?_⟩) ?_ ?_
  rotate_left
  ·intro w'
   go_simp
   with_reducible rfl
  rotate_left
  ·simp only [Act.put, zA, zZ, zS, aI, aJ]
   rfl
  refine puS (i := 10) (N := some 31) (v := ?_) (a' := ?_) rfl rfl (by kernel_rfl) (fun _ _ _ h => jX (N := 31) (by decide) (by decide) h) (Or.inl ⟨by rfl, ?_⟩) ?_ ?_
  rotate_left
  ·intro w'
   go_simp
   with_reducible rfl
  rotate_left
  ·simp only [Act.put, zA, zZ, zS, aI, aJ]
   rfl
  refine laS (i := 11) (N := none) rfl rfl (by kernel_rfl) (by decide) (fun K hK => ?_)
  refine wG (w1 := ?_) (by rfl) rfl ?_ ?_
  rotate_left
  ·go_simp
   rfl
  refine hK.out _ _ ?_
  clear hK K
  refine iT (by kernel_rfl) ?_
  refine qI (rs := (row k67 67 (.slice Af (Q.L.l).length cf) Q.L.l :: row k41 41 (.slice Ae (Q.es).length ce) Q.es :: box gv [.pointer (some ⟨gl, 0, none⟩)] 98 :: box gl [.slice Af Q.L.l.length cf, .bool Q.L.dn, .int .i64 Q.L.fu, .int .i64 Q.L.fa, .int .i64 Q.L.size, .int .u64 Q.L.fr, .int .u64 Q.L.nx, .bool Q.L.br, .slice Ae Q.es.length ce, .int .i64 Q.most] 101 :: box g5 [.int .i64 0] 34 :: box g4 [.slice none 0 0, .bool false, .int .i64 0, .int .i64 0, .int .i64 0, .int .u64 0, .int .u64 0, .bool false, .slice none 0 0, .int .i64 0] 33 :: box gq [.slice A Q.L.l.length c, .bool Q.L.dn, .int .i64 Q.L.fu, .int .i64 Q.L.fa, .int .i64 Q.L.size, .int .u64 Q.L.fr, .int .u64 Q.L.nx, .bool Q.L.br, .slice B Q.es.length d, .int .i64 Q.most] 33 :: rs)) (Sep.dY HN 0 (.slice Af Q.L.l.length cf) rfl) ?_
  clear HN f5 k5 HJ
  intro wd9 n_
  clear H c_v c_l z_l c_5 c_4 c_q
  have H := n_
  clear n_
  have c_v := H.out.cell (g := gv) mem2
  have c_l := H.out.cell (g := gl) mem3
  have z_l := H.out.frozen (g := gl) mem3
  have c_5 := H.out.cell (g := g5) bT
  have c_4 := H.out.cell (g := g4) dM
  have c_q := H.out.cell (g := gq) jL
  clear c_v c_l z_l c_5 c_4 c_q
  have c_v := H.out.cell (g := gv) mem2
  have c_l := H.out.cell (g := gl) mem3
  have c_5 := H.out.cell (g := g5) bT
  have z_5 := H.out.frozen (g := g5) bT
  have c_4 := H.out.cell (g := g4) dM
  have z_4 := H.out.frozen (g := g4) dM
  have c_q := H.out.cell (g := gq) jL
  cases hbr : Q.L.br
  ·
   go_wp2_with fail
   refine (rP 6 _).mono ?_
   rintro e w_ ⟨rfl, rfl⟩
   go_wp2_with fail
   have hDO : yS b fdo lb Q rs rs' R n := by
    rcases HDO.out with h | h | h
    ·exact absurd HOK.out h.1
    ·rw [h.2.1] at hbr; cases hbr
    ·exact h.2.2
   refine (hDO gl Af cf Ae ce _ [box g5 [.int .i64 0] 34, box g4 [.slice none 0 0, .bool false, .int .i64 0, .int .i64 0, .int .i64 0, .int .u64 0, .int .u64 0, .bool false, .slice none 0 0, .int .i64 0] 33, box gv [.pointer (some ⟨gl, 0, none⟩)] 98, box gq [.slice A Q.L.l.length c, .bool Q.L.dn, .int .i64 Q.L.fu, .int .i64 Q.L.fa, .int .i64 Q.L.size, .int .u64 Q.L.fr, .int .u64 Q.L.nx, .bool Q.L.br, .slice B Q.es.length d, .int .i64 Q.most] 33] ⟨Sep.perm (Sep.pO (Sep.pO (Sep.iR (Sep.pO (Sep.oZ (Sep.iW (Sep.iW H.out))))))) (List.perm_append_comm (l₁ := [box g5 [.int .i64 0] 34, box g4 [.slice none 0 0, .bool false, .int .i64 0, .int .i64 0, .int .i64 0, .int .u64 0, .int .u64 0, .bool false, .slice none 0 0, .int .i64 0] 33, box gv [.pointer (some ⟨gl, 0, none⟩)] 98, box gq [.slice A Q.L.l.length c, .bool Q.L.dn, .int .i64 Q.L.fu, .int .i64 Q.L.fa, .int .i64 Q.L.size, .int .u64 Q.L.fr, .int .u64 Q.L.nx, .bool Q.L.br, .slice B Q.es.length d, .int .i64 Q.most] 33]))⟩).mono ?_
   rintro e w2 ⟨hE, A', c', B', d', H2⟩
   clear c_v c_l c_5 z_5 c_4 z_4 c_q H
   have H : aC (Sep b w2 (box g5 [.int .i64 0] 34 :: box g4 [.slice none 0 0, .bool false, .int .i64 0, .int .i64 0, .int .i64 0, .int .u64 0, .int .u64 0, .bool false, .slice none 0 0, .int .i64 0] 33 :: box gv [.pointer (some ⟨gl, 0, none⟩)] 98 :: box gq [.slice A Q.L.l.length c, .bool Q.L.dn, .int .i64 Q.L.fu, .int .i64 Q.L.fa, .int .i64 Q.L.size, .int .u64 Q.L.fr, .int .u64 Q.L.nx, .bool Q.L.br, .slice B Q.es.length d, .int .i64 Q.most] 33 :: box gl [.slice A' R.L.l.length c', .bool R.L.dn, .int .i64 R.L.fu, .int .i64 R.L.fa, .int .i64 R.L.size, .int .u64 R.L.fr, .int .u64 R.L.nx, .bool R.L.br, .slice B' R.es.length d', .int .i64 R.most] 101 :: row k67 67 (.slice A' (R.L.l).length c') R.L.l :: row k41 41 (.slice B' (R.es).length d') R.es :: rs')) := ⟨H2.out.perm (List.perm_append_comm (l₁ := box gl (qc A' c' B' d' R) 101 :: lV A' c' R.L.l :: rG B' d' R.es :: rs'))⟩
   clear H2
   have c_5 := H.out.cell (g := g5) aP
   have z_5 := H.out.frozen (g := g5) aP
   have c_4 := H.out.cell (g := g4) mem1
   have z_4 := H.out.frozen (g := g4) mem1
   have c_v := H.out.cell (g := gv) mem2
   have c_q := H.out.cell (g := gq) mem3
   have c_l := H.out.cell (g := gl) bT
   rcases hE with ⟨rfl, rfl⟩ | ⟨hn, rfl⟩
   ·
    go_wp2_with (first
 |((with_reducible refine aV (t := 33) (p := 4) rfl ?_);
   refine bH (rs1 := (box g5 [.int .i64 0] 34 :: box g4 [.slice A' R.L.l.length c', .bool R.L.dn, .int .i64 R.L.fu, .int .i64 R.L.fa, .int .i64 R.L.size, .int .u64 R.L.fr, .int .u64 R.L.nx, .bool R.L.br, .slice B' R.es.length d', .int .i64 R.most] 33 :: box gv [.pointer (some ⟨gl, 0, none⟩)] 98 :: box gq [.slice A Q.L.l.length c, .bool Q.L.dn, .int .i64 Q.L.fu, .int .i64 Q.L.fa, .int .i64 Q.L.size, .int .u64 Q.L.fr, .int .u64 Q.L.nx, .bool Q.L.br, .slice B Q.es.length d, .int .i64 Q.most] 33 :: box gl [.slice A' R.L.l.length c', .bool R.L.dn, .int .i64 R.L.fu, .int .i64 R.L.fa, .int .i64 R.L.size, .int .u64 R.L.fr, .int .u64 R.L.nx, .bool R.L.br, .slice B' R.es.length d', .int .i64 R.most] 101 :: row k67 67 (.slice A' (R.L.l).length c') R.L.l :: row k41 41 (.slice B' (R.es).length d') R.es :: rs')) rfl (t := 33) (p := 4) rfl rfl ?hr (H1 := (Sep.set1 (Sep.set1 (Sep.set1 (Sep.set1 (Sep.set1 (Sep.set1 (Sep.set1 (Sep.set1 (Sep.set1 (Sep.set1 H.out 0 (.slice A' R.L.l.length c') rfl) 1 (.bool R.L.dn) rfl) 2 (.int .i64 R.L.fu) rfl) 3 (.int .i64 R.L.fa) rfl) 4 (.int .i64 R.L.size) rfl) 5 (.int .u64 R.L.fr) rfl) 6 (.int .u64 R.L.nx) rfl) 7 (.bool R.L.br) rfl) 8 (.slice B' R.es.length d') rfl) 9 (.int .i64 R.most) rfl)) ?_;
   (case hr => first | (go_simp; done) | (go_simp; rfl));
   intro ED n_;
   clear H c_5 z_5 c_4 z_4 c_v c_q c_l;
   have H := n_;
   clear n_;
   have c_5 := H.out.cell (g := g5) aP;
   have z_5 := H.out.frozen (g := g5) aP;
   have c_4 := H.out.cell (g := g4) mem1;
   have z_4 := H.out.frozen (g := g4) mem1;
   have c_v := H.out.cell (g := gv) mem2;
   have c_q := H.out.cell (g := gq) mem3;
   have c_l := H.out.cell (g := gl) bT)
 |((with_reducible refine aV (t := 34) (p := 5) rfl ?_);
   refine bH (rs1 := (box g5 [.int .i64 0] 34 :: box g4 [.slice A' R.L.l.length c', .bool R.L.dn, .int .i64 R.L.fu, .int .i64 R.L.fa, .int .i64 R.L.size, .int .u64 R.L.fr, .int .u64 R.L.nx, .bool R.L.br, .slice B' R.es.length d', .int .i64 R.most] 33 :: box gv [.pointer (some ⟨gl, 0, none⟩)] 98 :: box gq [.slice A Q.L.l.length c, .bool Q.L.dn, .int .i64 Q.L.fu, .int .i64 Q.L.fa, .int .i64 Q.L.size, .int .u64 Q.L.fr, .int .u64 Q.L.nx, .bool Q.L.br, .slice B Q.es.length d, .int .i64 Q.most] 33 :: box gl [.slice A' R.L.l.length c', .bool R.L.dn, .int .i64 R.L.fu, .int .i64 R.L.fa, .int .i64 R.L.size, .int .u64 R.L.fr, .int .u64 R.L.nx, .bool R.L.br, .slice B' R.es.length d', .int .i64 R.most] 101 :: row k67 67 (.slice A' (R.L.l).length c') R.L.l :: row k41 41 (.slice B' (R.es).length d') R.es :: rs')) rfl (t := 34) (p := 5) rfl rfl ?hr (H1 := (Sep.set0 H.out 0 (.int .i64 0) rfl)) ?_;
   (case hr => first | (go_simp; done) | (go_simp; rfl));
   intro NJ n_;
   clear H c_5 z_5 c_4 z_4 c_v c_q c_l;
   have H := n_;
   clear n_;
   have c_5 := H.out.cell (g := g5) aP;
   have z_5 := H.out.frozen (g := g5) aP;
   have c_4 := H.out.cell (g := g4) mem1;
   have z_4 := H.out.frozen (g := g4) mem1;
   have c_v := H.out.cell (g := gv) mem2;
   have c_q := H.out.cell (g := gq) mem3;
   have c_l := H.out.cell (g := gl) bT)
 |fail)
    refine leaves_cons (f := 101) (args := #[.pointer (some ⟨gv, 0, none⟩), .pointer (some ⟨g4, 0, none⟩), .pointer (some ⟨g5, 0, none⟩)]) (by simp) (by simp [go_sem]) ?_
    refine (RJ gv g4 g5 _).mono ?_
    rintro e u' w'' ⟨rfl, rfl, rfl⟩
    clear c_5
    have c_5 := H.out.cell (g := g5) aP
    (try simp only [Leaves, settle])
    exact ⟨_, pW (fn := Tryz.f52) rfl _ _ g4 33 _ _ _ g5 _ rfl (H.out.jF (g := g4) mem1) Tryz.underlying33 rfl info33 rfl (EC c_5), A', c', B', d', rfl, ⟨(Sep.eG (Sep.drop1 (Sep.drop2 (Sep.iJ (Sep.lC H.out)))))⟩⟩
   ·
    go_wp2_with fail
    refine leaves_cons (f := 101) (args := #[.pointer (some ⟨gv, 0, none⟩), .pointer (some ⟨g4, 0, none⟩), .pointer (some ⟨g5, 0, none⟩)]) (by simp) (by simp [go_sem]) ?_
    have H8 : aC (Sep b _ (box g5 [.int .i64 0] 34 :: box g4 [.slice none 0 0, .bool false, .int .i64 0, .int .i64 0, .int .i64 0, .int .u64 0, .int .u64 0, .bool false, .slice none 0 0, .int .i64 0] 33 :: box gv [.pointer (some ⟨gl, 0, none⟩)] 98 :: box gl [.slice A' R.L.l.length c', .bool R.L.dn, .int .i64 R.L.fu, .int .i64 R.L.fa, .int .i64 R.L.size, .int .u64 R.L.fr, .int .u64 R.L.nx, .bool R.L.br, .slice B' R.es.length d', .int .i64 R.most] 101 :: box gq [.slice A Q.L.l.length c, .bool Q.L.dn, .int .i64 Q.L.fu, .int .i64 Q.L.fa, .int .i64 Q.L.size, .int .u64 Q.L.fr, .int .u64 Q.L.nx, .bool Q.L.br, .slice B Q.es.length d, .int .i64 Q.most] 33 :: row k67 67 (.slice A' (R.L.l).length c') R.L.l :: row k41 41 (.slice B' (R.es).length d') R.es :: rs')) := ⟨(Sep.pO (Sep.pO (Sep.pO (Sep.pO (Sep.rX (Sep.pO (Sep.pO H.out)))))))⟩
    refine (uN gv g4 g5 gl _ A' c' B' d' R n _ H8).mono ?_
    rintro e u' w'' ⟨rfl, rfl, H9⟩
    clear H8 H c_5 z_5 c_4 z_4 c_v c_q c_l
    have H := H9
    have c_5 := H.out.cell (g := g5) aP
    (try simp only [Leaves, settle])
    exact ⟨_, pW (fn := Tryz.f52) rfl _ _ g4 33 _ _ _ g5 _ rfl (H.out.jF (g := g4) mem1) Tryz.underlying33 rfl info33 rfl (EC c_5), A', c', B', d', rfl, ⟨(Sep.eG (Sep.drop1 (Sep.drop2 (Sep.iJ (Sep.lC H.out)))))⟩⟩
  ·
   obtain ⟨hR, hn6, hrs⟩ : R = Q ∧ n = 6 ∧ rs' = rs := by
    rcases HDO.out with h | h | h
    ·exact absurd HOK.out h.1
    ·exact ⟨h.2.2.1, h.2.2.2.1, h.2.2.2.2⟩
    ·rw [h.2.1] at hbr; cases hbr
   subst hR hn6 hrs
   go_wp2_with fail
   refine (uM 6 _).mono ?_
   rintro e w_ ⟨rfl, rfl⟩
   try go_wp2_with fail
   refine leaves_cons (f := 101) (args := #[.pointer (some ⟨gv, 0, none⟩), .pointer (some ⟨g4, 0, none⟩), .pointer (some ⟨g5, 0, none⟩)]) (by simp) (by simp [go_sem]) ?_
   have H8 : aC (Sep b _ (box g5 [.int .i64 0] 34 :: box g4 [.slice none 0 0, .bool false, .int .i64 0, .int .i64 0, .int .i64 0, .int .u64 0, .int .u64 0, .bool false, .slice none 0 0, .int .i64 0] 33 :: box gv [.pointer (some ⟨gl, 0, none⟩)] 98 :: box gl [.slice Af R.L.l.length cf, .bool R.L.dn, .int .i64 R.L.fu, .int .i64 R.L.fa, .int .i64 R.L.size, .int .u64 R.L.fr, .int .u64 R.L.nx, .bool R.L.br, .slice Ae R.es.length ce, .int .i64 R.most] 101 :: row k67 67 (.slice Af (R.L.l).length cf) R.L.l :: row k41 41 (.slice Ae (R.es).length ce) R.es :: box gq [.slice A R.L.l.length c, .bool R.L.dn, .int .i64 R.L.fu, .int .i64 R.L.fa, .int .i64 R.L.size, .int .u64 R.L.fr, .int .u64 R.L.nx, .bool R.L.br, .slice B R.es.length d, .int .i64 R.most] 33 :: rs')) := ⟨(Sep.pO (Sep.pO (Sep.iR (Sep.iR (Sep.iY (Sep.iY (Sep.pO H.out)))))))⟩
   refine (uN gv g4 g5 gl _ Af cf Ae ce R 6 _ H8).mono ?_
   rintro e u' w'' ⟨rfl, rfl, H9⟩
   clear H8 H c_v c_l c_5 z_5 c_4 z_4 c_q
   have H := H9
   have c_5 := H.out.cell (g := g5) aP
   (try simp only [Leaves, settle])
   exact ⟨_, pW (fn := Tryz.f52) rfl _ _ g4 33 _ _ _ g5 _ rfl (H.out.jF (g := g4) mem1) Tryz.underlying33 rfl info33 rfl (EC c_5), Af, cf, Ae, ce, rfl, ⟨(Sep.eG (Sep.drop1 (Sep.drop2 (Sep.iJ (Sep.CP H.out)))))⟩⟩
 ·
  obtain ⟨hR, hn6, hrs⟩ : R = Qz ∧ n = 6 ∧ rs' = rs := by
   rcases HDO.out with h | h | h
   ·exact h.2
   ·exact absurd h.1 hok
   ·exact absurd h.1 hok
  subst hR hn6 hrs
  refine ((bP.calls (Q.es.length + 3) A c Q.L.l Q.L.dn Q.L.fu Q.L.fa Q.L.size Q.L.fr Q.L.nx Q.L.br B d Q.es Q.most 6 _ (H.out.came HRp.out) HCp.out (H.out.came HRe.out) HCe.out (by have h := yH Q HF0.out HEL.out; rw [if_neg hok] at h; exact h)).mono ?_)
  rintro e JQ ⟨rfl, hb_⟩
  have n_ : aC (Sep b JQ (box g5 [.int .i64 0] 34 :: box g4 [.slice none 0 0, .bool false, .int .i64 0, .int .i64 0, .int .i64 0, .int .u64 0, .int .u64 0, .bool false, .slice none 0 0, .int .i64 0] 33 :: box gq [.slice A Q.L.l.length c, .bool Q.L.dn, .int .i64 Q.L.fu, .int .i64 Q.L.fa, .int .i64 Q.L.size, .int .u64 Q.L.fr, .int .u64 Q.L.nx, .bool Q.L.br, .slice B Q.es.length d, .int .i64 Q.most] 33 :: rs')) := ⟨H.out.step hb_⟩
  clear H c_5 c_4 c_q
  have H := n_
  clear n_
  have c_5 := H.out.cell (g := g5) aP
  have c_4 := H.out.cell (g := g4) mem1
  have c_q := H.out.cell (g := gq) mem2
  clear hb_
  clear c_5 c_4 c_q
  have c_5 := H.out.cell (g := g5) aP
  have z_5 := H.out.frozen (g := g5) aP
  have c_4 := H.out.cell (g := g4) mem1
  have z_4 := H.out.frozen (g := g4) mem1
  have c_q := H.out.cell (g := gq) mem2
  go_wp2_with (first
 |((with_reducible refine aV (t := 33) (p := 4) rfl ?_);
   refine bH (rs1 := (box g5 [.int .i64 0] 34 :: box g4 [.slice none 0 0, .bool false, .int .i64 0, .int .i64 0, .int .i64 0, .int .u64 0, .int .u64 0, .bool false, .slice none 0 0, .int .i64 0] 33 :: box gq [.slice A Q.L.l.length c, .bool Q.L.dn, .int .i64 Q.L.fu, .int .i64 Q.L.fa, .int .i64 Q.L.size, .int .u64 Q.L.fr, .int .u64 Q.L.nx, .bool Q.L.br, .slice B Q.es.length d, .int .i64 Q.most] 33 :: rs')) rfl (t := 33) (p := 4) rfl rfl ?hr (H1 := (Sep.set1 (Sep.set1 (Sep.set1 (Sep.set1 (Sep.set1 (Sep.set1 (Sep.set1 (Sep.set1 (Sep.set1 (Sep.set1 H.out 0 (.slice none 0 0) rfl) 1 (.bool false) rfl) 2 (.int .i64 0) rfl) 3 (.int .i64 0) rfl) 4 (.int .i64 0) rfl) 5 (.int .u64 0) rfl) 6 (.int .u64 0) rfl) 7 (.bool false) rfl) 8 (.slice none 0 0) rfl) 9 (.int .i64 0) rfl)) ?_;
   (case hr => first | (go_simp; done) | (go_simp; rfl));
   intro JR n_;
   clear H c_5 z_5 c_4 z_4 c_q;
   have H := n_;
   clear n_;
   have c_5 := H.out.cell (g := g5) aP;
   have z_5 := H.out.frozen (g := g5) aP;
   have c_4 := H.out.cell (g := g4) mem1;
   have z_4 := H.out.frozen (g := g4) mem1;
   have c_q := H.out.cell (g := gq) mem2)
 |((with_reducible refine aV (t := 34) (p := 5) rfl ?_);
   refine bH (rs1 := (box g5 [.int .i64 6] 34 :: box g4 [.slice none 0 0, .bool false, .int .i64 0, .int .i64 0, .int .i64 0, .int .u64 0, .int .u64 0, .bool false, .slice none 0 0, .int .i64 0] 33 :: box gq [.slice A Q.L.l.length c, .bool Q.L.dn, .int .i64 Q.L.fu, .int .i64 Q.L.fa, .int .i64 Q.L.size, .int .u64 Q.L.fr, .int .u64 Q.L.nx, .bool Q.L.br, .slice B Q.es.length d, .int .i64 Q.most] 33 :: rs')) rfl (t := 34) (p := 5) rfl rfl ?hr (H1 := (Sep.set0 H.out 0 (.int .i64 6) rfl)) ?_;
   (case hr => first | (go_simp; done) | (go_simp; rfl));
   intro TQ n_;
   clear H c_5 z_5 c_4 z_4 c_q;
   have H := n_;
   clear n_;
   have c_5 := H.out.cell (g := g5) aP;
   have z_5 := H.out.frozen (g := g5) aP;
   have c_4 := H.out.cell (g := g4) mem1;
   have z_4 := H.out.frozen (g := g4) mem1;
   have c_q := H.out.cell (g := gq) mem2)
 |fail)
  have H2 := Sep.eU (d := k67) (e := 67) (Sep.eU (d := k41) (e := 41) (Sep.eG (Sep.drop1 (Sep.drop2 H.out))))
  clear c_5
  have c_5 := H.out.cell (g := g5) aP
  (try simp only [Leaves, settle])
  exact ⟨_, pW (fn := Tryz.f52) rfl _ _ g4 33 _ _ _ g5 _ rfl (H.out.jF (g := g4) mem1) Tryz.underlying33 rfl info33 rfl (EC c_5), none, 0, none, 0, rfl, ⟨H2⟩⟩
end Go.Proofs.U
