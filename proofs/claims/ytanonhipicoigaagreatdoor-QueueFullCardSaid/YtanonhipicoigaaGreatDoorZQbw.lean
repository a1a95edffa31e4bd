import Derived.BigRegion
import Derived.LoopN
import Derived.Deep.DeepCutAuto
import Derived.Test.YtanonhipicoigaaGreatDoorZQbv
import Derived.Test.YtanonhipicoigaaGreatDoorZQau
import Derived.Test.YtanonhipicoigaaGreatDoorZQag
set_option linter.unusedVariables false
set_option linter.unusedSimpArgs false
namespace Go.Proofs.YtanonhipicoigaaGreatDoor.U
open Go.RowKit Go.Proofs.YW.PrintWords Go.Proofs.YW.PrintLast Go.Proofs.YW.PrintMore Go.Proofs.YtanonhipicoigaaGreatDoor.Sp Go.Proofs.YtanonhipicoigaaGreatDoor.eP
set_option maxHeartbeats 1600000 in
set_option maxRecDepth 100000 in
theorem qcL (most n : Int) (w : World) (hG : Gl w) :
  Calls Tryz.prog 11 #[.int .i64 most, .int .i64 n] w fun e w' => e = .returned (.bool true) ∧ Below w.heap.size w w' := by
 have HG := aA.mk hG
 clear hG
 have H := aA.mk (Sep.start w)
 go_enter Tryz.func11, Tryz.ntmps11
 go_wp2_with fail
 refine ((wL _ (HG.out.below H.out.below)).mono ?_)
 rintro e wd1 ⟨rfl, hb_⟩
 have n_ : aA (Sep w wd1 []) := ⟨H.out.step hb_⟩
 clear H
 have H := n_
 clear n_
 clear hb_
 go_wp2_with fail
 refine ((jI.calls [] false (-1) (-1) _ rfl).mono ?_)
 rintro e wd2 ⟨v_, rfl, ho_, hb_⟩
 obtain ⟨Af, cf, eo_⟩ := Kd.dU ho_
 subst eo_
 have n_ : aA (Sep w wd2 [row k67 67 (.slice Af (([] : List S67)).length cf) (([] : List S67))]) := ⟨Sep.iL H.out hb_ ho_ kN⟩
 clear H
 have H := n_
 clear n_
 clear ho_ hb_
 have HOP := aA.mk (fun A c w hr hc hG => sG A c [] false (-1) (-1) 262144 most w hr hc hG)
 by_cases hm : most < 1 ∨ 1024 < most
 ·
  rw [DV hm] at HOP
  dsimp only at HOP
  clear hm
  go_wp2_with fail
  refine ((HOP.out _ _ _ (H.out.reads aH).2.2 (H.out.reads aH).2.1 (HG.out.below H.out.below)).mono ?_)
  rintro e wd3 ⟨A1, c1, B1, d1, rfl, HJ⟩
  have n_ : aA (Sep w wd3 [row k67 67 (.slice A1 (Qz.L.l).length c1) Qz.L.l, row k41 41 (.slice B1 (Qz.es).length d1) Qz.es, row k67 67 (.slice Af (([] : List S67)).length cf) (([] : List S67))]) := ⟨dI H.out HJ.out⟩
  clear H
  have H := n_
  clear n_
  clear HJ
  simp only [qc, lgc, List.cons_append, List.nil_append]
  go_wp2_with (first
 |((with_reducible refine aN (N := 5) rfl ?_);
   refine aX rfl H (cs := [.slice none 0 0, .bool false, .int .i64 0, .int .i64 0, .int .i64 0, .int .u64 0, .int .u64 0, .bool false, .slice none 0 0, .int .i64 0]) (t := 33) ?hr ?_;
   (case hr => first | (go_simp; done) | (go_simp; rfl));
   intro gq wd4 n_;
   simp only [Act.put, zA, zZ, zS];
   clear H;
   have H := n_;
   clear n_;
   have c_q := H.out.cell (g := gq) aH;
   have z_q := H.out.frozen (g := gq) aH)
 |((with_reducible refine aK (t := 33) (p := 5) rfl ?_);
   refine aV (rs1 := [box gq [.slice A1 Qz.L.l.length c1, .bool Qz.L.dn, .int .i64 Qz.L.fu, .int .i64 Qz.L.fa, .int .i64 Qz.L.size, .int .u64 Qz.L.fr, .int .u64 Qz.L.nx, .bool Qz.L.br, .slice B1 Qz.es.length d1, .int .i64 Qz.most] 33, row k67 67 (.slice A1 (Qz.L.l).length c1) Qz.L.l, row k41 41 (.slice B1 (Qz.es).length d1) Qz.es, row k67 67 (.slice Af (([] : List S67)).length cf) (([] : List S67))]) rfl (t := 33) (p := 5) rfl rfl ?hr (H1 := (Sep.set0 (Sep.set0 (Sep.set0 (Sep.set0 (Sep.set0 (Sep.set0 (Sep.set0 (Sep.set0 (Sep.set0 (Sep.set0 H.out 0 (.slice A1 Qz.L.l.length c1) rfl) 1 (.bool Qz.L.dn) rfl) 2 (.int .i64 Qz.L.fu) rfl) 3 (.int .i64 Qz.L.fa) rfl) 4 (.int .i64 Qz.L.size) rfl) 5 (.int .u64 Qz.L.fr) rfl) 6 (.int .u64 Qz.L.nx) rfl) 7 (.bool Qz.L.br) rfl) 8 (.slice B1 Qz.es.length d1) rfl) 9 (.int .i64 Qz.most) rfl)) ?_;
   (case hr => first | (go_simp; done) | (go_simp; rfl));
   intro wd5 n_;
   clear H c_q z_q;
   have H := n_;
   clear n_;
   have c_q := H.out.cell (g := gq) aH;
   have z_q := H.out.frozen (g := gq) aH)
 |fail)
  go_wp2_with fail
  go_ret
  exact ⟨by first | rfl | simp, H.out.below⟩
 ·
  rw [KE (by decide) (by decide) (by omega) (by omega)] at HOP
  obtain ⟨Q0, hQ0⟩ : ∃ Q0 : Qu, Q0 = ⟨L0s 262144, [], most⟩ := ⟨_, rfl⟩
  have HF0 : aA (rF most 0 Q0) := ⟨by rw [hQ0]; exact qei (by omega) (by omega)⟩
  rw [← hQ0] at HOP
  dsimp only at HOP
  clear hm hQ0
  go_wp2_with fail
  refine ((HOP.out _ _ _ (H.out.reads aH).2.2 (H.out.reads aH).2.1 (HG.out.below H.out.below)).mono ?_)
  rintro e wd6 ⟨A0, c0, B0, d0, rfl, HJ⟩
  have n_ : aA (Sep w wd6 [row k67 67 (.slice A0 (Q0.L.l).length c0) Q0.L.l, row k41 41 (.slice B0 (Q0.es).length d0) Q0.es, row k67 67 (.slice Af (([] : List S67)).length cf) (([] : List S67))]) := ⟨dI H.out HJ.out⟩
  clear H
  have H := n_
  clear n_
  clear HJ
  simp only [qc, lgc, List.cons_append, List.nil_append]
  have n_ : aA (Sep w wd6 [row k67 67 (.slice A0 (Q0.L.l).length c0) Q0.L.l, row k41 41 (.slice B0 (Q0.es).length d0) Q0.es]) := ⟨Sep.drop2 H.out⟩
  clear H
  have H := n_
  clear n_
  clear HOP
  go_wp2_with (first
 |((with_reducible refine aN (N := 5) rfl ?_);
   refine aX rfl H (cs := [.slice none 0 0, .bool false, .int .i64 0, .int .i64 0, .int .i64 0, .int .u64 0, .int .u64 0, .bool false, .slice none 0 0, .int .i64 0]) (t := 33) ?hr ?_;
   (case hr => first | (go_simp; done) | (go_simp; rfl));
   intro gq wd7 n_;
   simp only [Act.put, zA, zZ, zS];
   clear H;
   have H := n_;
   clear n_;
   have c_q := H.out.cell (g := gq) aH;
   have z_q := H.out.frozen (g := gq) aH)
 |((with_reducible refine aK (t := 33) (p := 5) rfl ?_);
   refine aV (rs1 := [box gq [.slice A0 Q0.L.l.length c0, .bool Q0.L.dn, .int .i64 Q0.L.fu, .int .i64 Q0.L.fa, .int .i64 Q0.L.size, .int .u64 Q0.L.fr, .int .u64 Q0.L.nx, .bool Q0.L.br, .slice B0 Q0.es.length d0, .int .i64 Q0.most] 33, row k67 67 (.slice A0 (Q0.L.l).length c0) Q0.L.l, row k41 41 (.slice B0 (Q0.es).length d0) Q0.es]) rfl (t := 33) (p := 5) rfl rfl ?hr (H1 := (Sep.set0 (Sep.set0 (Sep.set0 (Sep.set0 (Sep.set0 (Sep.set0 (Sep.set0 (Sep.set0 (Sep.set0 (Sep.set0 H.out 0 (.slice A0 Q0.L.l.length c0) rfl) 1 (.bool Q0.L.dn) rfl) 2 (.int .i64 Q0.L.fu) rfl) 3 (.int .i64 Q0.L.fa) rfl) 4 (.int .i64 Q0.L.size) rfl) 5 (.int .u64 Q0.L.fr) rfl) 6 (.int .u64 Q0.L.nx) rfl) 7 (.bool Q0.L.br) rfl) 8 (.slice B0 Q0.es.length d0) rfl) 9 (.int .i64 Q0.most) rfl)) ?_;
   (case hr => first | (go_simp; done) | (go_simp; rfl));
   intro wd8 n_;
   clear H c_q z_q;
   have H := n_;
   clear n_;
   have c_q := H.out.cell (g := gq) aH;
   have z_q := H.out.frozen (g := gq) aH)
 |fail)
  go_loopw [4, 7, 8, 9, 10] (fun v4 v7 v8 v9 v10 wr => ∃ (i : Nat) (Q : Qu) (A : Option Addr) (c : Nat) (B : Option Addr) (d : Nat), v7 = .int .i64 (i : Int) ∧ i ≤ 12 ∧ aA (rF most i Q) ∧ aA (Sep w wr [box gq [.slice A Q.L.l.length c, .bool Q.L.dn, .int .i64 Q.L.fu, .int .i64 Q.L.fa, .int .i64 Q.L.size, .int .u64 Q.L.fr, .int .u64 Q.L.nx, .bool Q.L.br, .slice B Q.es.length d, .int .i64 Q.most] 33, row k67 67 (.slice A (Q.L.l).length c) Q.L.l, row k41 41 (.slice B (Q.es).length d) Q.es])) (fun _ v7 _ _ _ _ => 12 - (intOf v7).toNat)
  case atStart => exact ⟨0, Q0, A0, c0, B0, d0, rfl, by decide, HF0, ⟨H.out⟩⟩
  case round =>
   clear H c_q z_q
   obtain ⟨i, Q, A, c, B, d, rfl, qj3, HF, H⟩ := hrel
   have c_q := H.out.cell (g := gq) aH
   have z_q := H.out.frozen (g := gq) aH
   have HOK := aA.mk HF.out.okr
   go_upto_region 7 with fail
   go_cut [37] (fun v37 wx => v37 = .bool (decide ((i : Int) < n ∧ (i : Int) < 12)) ∧ aA (Sep w wx [box gq [.slice A Q.L.l.length c, .bool Q.L.dn, .int .i64 Q.L.fu, .int .i64 Q.L.fa, .int .i64 Q.L.size, .int .u64 Q.L.fr, .int .u64 Q.L.nx, .bool Q.L.br, .slice B Q.es.length d, .int .i64 Q.most] 33, row k67 67 (.slice A (Q.L.l).length c) Q.L.l, row k41 41 (.slice B (Q.es).length d) Q.es]))
   case first =>
    by_cases h1 : (i : Int) < n
    ·by_cases h2 : (i : Int) < 12
     ·go_wp2_with fail
      go_meet
      exact ⟨by simp [h1, h2] <;> omega, H⟩
     ·go_wp2_with fail
      go_meet
      exact ⟨by simp [h1, h2] <;> omega, H⟩
    ·go_wp2_with fail
     go_meet
     exact ⟨by simp [h1] <;> omega, H⟩
   case rest =>
    obtain ⟨rfl, n_⟩ := hcut
    clear H c_q z_q
    have H := n_
    clear n_
    have c_q := H.out.cell (g := gq) aH
    have z_q := H.out.frozen (g := gq) aH
    by_cases hc : (i : Int) < n ∧ (i : Int) < 12
    ·
     have hcb : decide ((i : Int) < n ∧ (i : Int) < 12) = true := decide_eq_true hc
     rw [hcb]
     obtain ⟨Q2, e, s, h1, h2, HF2, h4⟩ := HF.out.put (by omega)
     have HPT := aA.mk (put_any A c B d Q ⟨#[120]⟩)
     rw [h1, h2] at HPT
     dsimp only at HPT
     clear h1 h2 hcb
     go_wp2_with fail
     refine ((HPT.out _ (H.out.reads mem1).2.2 (H.out.reads mem1).2.1 (H.out.reads mem2).2.2 (H.out.reads mem2).2.1 (HG.out.below H.out.below) HOK.out.1 HOK.out.2.1 HOK.out.2.2).mono ?_)
     rintro e wd9 ⟨A2, c2, B2, d2, rfl, HJ⟩
     have n_ : aA (Sep w wd9 [row k67 67 (.slice A2 (Q2.L.l).length c2) Q2.L.l, row k41 41 (.slice B2 (Q2.es).length d2) Q2.es, box gq [.slice A Q.L.l.length c, .bool Q.L.dn, .int .i64 Q.L.fu, .int .i64 Q.L.fa, .int .i64 Q.L.size, .int .u64 Q.L.fr, .int .u64 Q.L.nx, .bool Q.L.br, .slice B Q.es.length d, .int .i64 Q.most] 33, row k67 67 (.slice A (Q.L.l).length c) Q.L.l, row k41 41 (.slice B (Q.es).length d) Q.es]) := ⟨dI H.out HJ.out⟩
     clear H c_q z_q
     have H := n_
     clear n_
     have c_q := H.out.cell (g := gq) mem2
     have z_q := H.out.frozen (g := gq) mem2
     clear HJ
     simp only [qc, lgc, List.cons_append, List.nil_append]
     have hwu : IntKind.u64.wrap (i : Int) = (i : Int) := by
      rw [IntKind.wrap_u64]
      omega
     have qkC : IntKind.u64.wrap ((i : Int) + 1) = (i : Int) + 1 := by
      rw [IntKind.wrap_u64]
      omega
     have hw3 : wrap64 ((i : Int) + 1) = ((i + 1 : Nat) : Int) := by
      unfold wrap64
      omega
     have HF2 := aA.mk HF2
     rcases h4 with ⟨hlt, rfl, rfl⟩ | ⟨hlt, rfl⟩
     ·
      go_wp2_with (first
 |((with_reducible refine aN (N := 8) rfl ?_);
   refine aX rfl H (cs := [.slice none 0 0, .bool false, .int .i64 0, .int .i64 0, .int .i64 0, .int .u64 0, .int .u64 0, .bool false, .slice none 0 0, .int .i64 0]) (t := 33) ?hr ?_;
   (case hr => first | (go_simp; done) | (go_simp; rfl));
   intro gy DC n_;
   simp only [Act.put, zA, zZ, zS];
   clear H c_q z_q;
   have H := n_;
   clear n_;
   have c_y := H.out.cell (g := gy) aH;
   have z_y := H.out.frozen (g := gy) aH;
   have c_q := H.out.cell (g := gq) mem3;
   have z_q := H.out.frozen (g := gq) mem3)
 |((with_reducible refine aK (t := 33) (p := 8) rfl ?_);
   refine aV (rs1 := [box gy [.slice A2 Q2.L.l.length c2, .bool Q2.L.dn, .int .i64 Q2.L.fu, .int .i64 Q2.L.fa, .int .i64 Q2.L.size, .int .u64 Q2.L.fr, .int .u64 Q2.L.nx, .bool Q2.L.br, .slice B2 Q2.es.length d2, .int .i64 Q2.most] 33, row k67 67 (.slice A2 (Q2.L.l).length c2) Q2.L.l, row k41 41 (.slice B2 (Q2.es).length d2) Q2.es, box gq [.slice A Q.L.l.length c, .bool Q.L.dn, .int .i64 Q.L.fu, .int .i64 Q.L.fa, .int .i64 Q.L.size, .int .u64 Q.L.fr, .int .u64 Q.L.nx, .bool Q.L.br, .slice B Q.es.length d, .int .i64 Q.most] 33, row k67 67 (.slice A (Q.L.l).length c) Q.L.l, row k41 41 (.slice B (Q.es).length d) Q.es]) rfl (t := 33) (p := 8) rfl rfl ?hr (H1 := (Sep.set0 (Sep.set0 (Sep.set0 (Sep.set0 (Sep.set0 (Sep.set0 (Sep.set0 (Sep.set0 (Sep.set0 (Sep.set0 H.out 0 (.slice A2 Q2.L.l.length c2) rfl) 1 (.bool Q2.L.dn) rfl) 2 (.int .i64 Q2.L.fu) rfl) 3 (.int .i64 Q2.L.fa) rfl) 4 (.int .i64 Q2.L.size) rfl) 5 (.int .u64 Q2.L.fr) rfl) 6 (.int .u64 Q2.L.nx) rfl) 7 (.bool Q2.L.br) rfl) 8 (.slice B2 Q2.es.length d2) rfl) 9 (.int .i64 Q2.most) rfl)) ?_;
   (case hr => first | (go_simp; done) | (go_simp; rfl));
   intro MO n_;
   clear H c_y z_y c_q z_q;
   have H := n_;
   clear n_;
   have c_y := H.out.cell (g := gy) aH;
   have z_y := H.out.frozen (g := gy) aH;
   have c_q := H.out.cell (g := gq) mem3;
   have z_q := H.out.frozen (g := gq) mem3)
 |((with_reducible refine aK (t := 33) (p := 5) rfl ?_);
   refine aV (rs1 := [box gy [.slice A2 Q2.L.l.length c2, .bool Q2.L.dn, .int .i64 Q2.L.fu, .int .i64 Q2.L.fa, .int .i64 Q2.L.size, .int .u64 Q2.L.fr, .int .u64 Q2.L.nx, .bool Q2.L.br, .slice B2 Q2.es.length d2, .int .i64 Q2.most] 33, row k67 67 (.slice A2 (Q2.L.l).length c2) Q2.L.l, row k41 41 (.slice B2 (Q2.es).length d2) Q2.es, box gq [.slice A2 Q2.L.l.length c2, .bool Q2.L.dn, .int .i64 Q2.L.fu, .int .i64 Q2.L.fa, .int .i64 Q2.L.size, .int .u64 Q2.L.fr, .int .u64 Q2.L.nx, .bool Q2.L.br, .slice B2 Q2.es.length d2, .int .i64 Q2.most] 33, row k67 67 (.slice A (Q.L.l).length c) Q.L.l, row k41 41 (.slice B (Q.es).length d) Q.es]) rfl (t := 33) (p := 5) rfl rfl ?hr (H1 := (Sep.dQ (Sep.dQ (Sep.dQ (Sep.dQ (Sep.dQ (Sep.dQ (Sep.dQ (Sep.dQ (Sep.dQ (Sep.dQ H.out 0 (.slice A2 Q2.L.l.length c2) rfl) 1 (.bool Q2.L.dn) rfl) 2 (.int .i64 Q2.L.fu) rfl) 3 (.int .i64 Q2.L.fa) rfl) 4 (.int .i64 Q2.L.size) rfl) 5 (.int .u64 Q2.L.fr) rfl) 6 (.int .u64 Q2.L.nx) rfl) 7 (.bool Q2.L.br) rfl) 8 (.slice B2 Q2.es.length d2) rfl) 9 (.int .i64 Q2.most) rfl)) ?_;
   (case hr => first | (go_simp; done) | (go_simp; rfl));
   intro yV n_;
   clear H c_y z_y c_q z_q;
   have H := n_;
   clear n_;
   have c_y := H.out.cell (g := gy) aH;
   have z_y := H.out.frozen (g := gy) aH;
   have c_q := H.out.cell (g := gq) mem3;
   have z_q := H.out.frozen (g := gq) mem3)
 |fail)
      try rw [hw3]
      exact ⟨⟨i + 1, Q2, A2, c2, B2, d2, rfl, by omega, HF2, ⟨(Sep.gV (Sep.iE (Sep.iE (Sep.dW (Sep.lH (Sep.wX H.out))))))⟩⟩, by simp [intOf] <;> omega⟩
     ·
      go_wp2_with (first
 |((with_reducible refine aN (N := 8) rfl ?_);
   refine aX rfl H (cs := [.slice none 0 0, .bool false, .int .i64 0, .int .i64 0, .int .i64 0, .int .u64 0, .int .u64 0, .bool false, .slice none 0 0, .int .i64 0]) (t := 33) ?hr ?_;
   (case hr => first | (go_simp; done) | (go_simp; rfl));
   intro gy DF n_;
   simp only [Act.put, zA, zZ, zS];
   clear H c_q z_q;
   have H := n_;
   clear n_;
   have c_y := H.out.cell (g := gy) aH;
   have z_y := H.out.frozen (g := gy) aH;
   have c_q := H.out.cell (g := gq) mem3;
   have z_q := H.out.frozen (g := gq) mem3)
 |((with_reducible refine aK (t := 33) (p := 8) rfl ?_);
   refine aV (rs1 := [box gy [.slice A2 Q2.L.l.length c2, .bool Q2.L.dn, .int .i64 Q2.L.fu, .int .i64 Q2.L.fa, .int .i64 Q2.L.size, .int .u64 Q2.L.fr, .int .u64 Q2.L.nx, .bool Q2.L.br, .slice B2 Q2.es.length d2, .int .i64 Q2.most] 33, row k67 67 (.slice A2 (Q2.L.l).length c2) Q2.L.l, row k41 41 (.slice B2 (Q2.es).length d2) Q2.es, box gq [.slice A Q.L.l.length c, .bool Q.L.dn, .int .i64 Q.L.fu, .int .i64 Q.L.fa, .int .i64 Q.L.size, .int .u64 Q.L.fr, .int .u64 Q.L.nx, .bool Q.L.br, .slice B Q.es.length d, .int .i64 Q.most] 33, row k67 67 (.slice A (Q.L.l).length c) Q.L.l, row k41 41 (.slice B (Q.es).length d) Q.es]) rfl (t := 33) (p := 8) rfl rfl ?hr (H1 := (Sep.set0 (Sep.set0 (Sep.set0 (Sep.set0 (Sep.set0 (Sep.set0 (Sep.set0 (Sep.set0 (Sep.set0 (Sep.set0 H.out 0 (.slice A2 Q2.L.l.length c2) rfl) 1 (.bool Q2.L.dn) rfl) 2 (.int .i64 Q2.L.fu) rfl) 3 (.int .i64 Q2.L.fa) rfl) 4 (.int .i64 Q2.L.size) rfl) 5 (.int .u64 Q2.L.fr) rfl) 6 (.int .u64 Q2.L.nx) rfl) 7 (.bool Q2.L.br) rfl) 8 (.slice B2 Q2.es.length d2) rfl) 9 (.int .i64 Q2.most) rfl)) ?_;
   (case hr => first | (go_simp; done) | (go_simp; rfl));
   intro PE n_;
   clear H c_y z_y c_q z_q;
   have H := n_;
   clear n_;
   have c_y := H.out.cell (g := gy) aH;
   have z_y := H.out.frozen (g := gy) aH;
   have c_q := H.out.cell (g := gq) mem3;
   have z_q := H.out.frozen (g := gq) mem3)
 |((with_reducible refine aK (t := 33) (p := 5) rfl ?_);
   refine aV (rs1 := [box gy [.slice A2 Q2.L.l.length c2, .bool Q2.L.dn, .int .i64 Q2.L.fu, .int .i64 Q2.L.fa, .int .i64 Q2.L.size, .int .u64 Q2.L.fr, .int .u64 Q2.L.nx, .bool Q2.L.br, .slice B2 Q2.es.length d2, .int .i64 Q2.most] 33, row k67 67 (.slice A2 (Q2.L.l).length c2) Q2.L.l, row k41 41 (.slice B2 (Q2.es).length d2) Q2.es, box gq [.slice A2 Q2.L.l.length c2, .bool Q2.L.dn, .int .i64 Q2.L.fu, .int .i64 Q2.L.fa, .int .i64 Q2.L.size, .int .u64 Q2.L.fr, .int .u64 Q2.L.nx, .bool Q2.L.br, .slice B2 Q2.es.length d2, .int .i64 Q2.most] 33, row k67 67 (.slice A (Q.L.l).length c) Q.L.l, row k41 41 (.slice B (Q.es).length d) Q.es]) rfl (t := 33) (p := 5) rfl rfl ?hr (H1 := (Sep.dQ (Sep.dQ (Sep.dQ (Sep.dQ (Sep.dQ (Sep.dQ (Sep.dQ (Sep.dQ (Sep.dQ (Sep.dQ H.out 0 (.slice A2 Q2.L.l.length c2) rfl) 1 (.bool Q2.L.dn) rfl) 2 (.int .i64 Q2.L.fu) rfl) 3 (.int .i64 Q2.L.fa) rfl) 4 (.int .i64 Q2.L.size) rfl) 5 (.int .u64 Q2.L.fr) rfl) 6 (.int .u64 Q2.L.nx) rfl) 7 (.bool Q2.L.br) rfl) 8 (.slice B2 Q2.es.length d2) rfl) 9 (.int .i64 Q2.most) rfl)) ?_;
   (case hr => first | (go_simp; done) | (go_simp; rfl));
   intro DI n_;
   clear H c_y z_y c_q z_q;
   have H := n_;
   clear n_;
   have c_y := H.out.cell (g := gy) aH;
   have z_y := H.out.frozen (g := gy) aH;
   have c_q := H.out.cell (g := gq) mem3;
   have z_q := H.out.frozen (g := gq) mem3)
 |fail)
      try rw [hw3]
      exact ⟨⟨i + 1, Q2, A2, c2, B2, d2, rfl, by omega, HF2, ⟨(Sep.gV (Sep.iE (Sep.iE (Sep.dW (Sep.lH (Sep.wX H.out))))))⟩⟩, by simp [intOf] <;> omega⟩
    ·
     have hcb : decide ((i : Int) < n ∧ (i : Int) < 12) = false := decide_eq_false hc
     rw [hcb]
     clear hcb hc
     have HLE := aA.mk (sF A c B d Q)
     rcases HF.out.last qj3 with ⟨he, h1, h2⟩ | ⟨he, x, Ql, Qd, Qm, s, h1, h2, h3, h4, h5, h6, h7, h8, h9, h10⟩
     ·
      rw [h1, h2] at HLE
      dsimp only at HLE
      have hl0 : (Q.es.length : Int) = 0 := by rw [he]; rfl
      have hl1 : ((Q.es.length : Int) == 0) = true := by rw [hl0]; rfl
      clear h1 h2 he
      go_wp2_with fail
      refine ((HLE.out _ (H.out.reads mem1).2.2 (H.out.reads mem1).2.1 (H.out.reads mem2).2.2 (H.out.reads mem2).2.1 (HG.out.below H.out.below) HOK.out.1 HOK.out.2.1 HOK.out.2.2).mono ?_)
      rintro e QT ⟨A2, c2, B2, d2, rfl, HJ⟩
      have n_ : aA (Sep w QT [row k67 67 (.slice A2 (Q.L.l).length c2) Q.L.l, row k41 41 (.slice B2 (Q.es).length d2) Q.es, box gq [.slice A Q.L.l.length c, .bool Q.L.dn, .int .i64 Q.L.fu, .int .i64 Q.L.fa, .int .i64 Q.L.size, .int .u64 Q.L.fr, .int .u64 Q.L.nx, .bool Q.L.br, .slice B Q.es.length d, .int .i64 Q.most] 33, row k67 67 (.slice A (Q.L.l).length c) Q.L.l, row k41 41 (.slice B (Q.es).length d) Q.es]) := ⟨dI H.out HJ.out⟩
      clear H c_q z_q
      have H := n_
      clear n_
      have c_q := H.out.cell (g := gq) mem2
      have z_q := H.out.frozen (g := gq) mem2
      clear HJ
      simp only [qc, lgc, List.cons_append, List.nil_append]
      simp only [z41]
      go_wp2_with (first
 |((with_reducible refine aN (N := 12) rfl ?_);
   refine aX rfl H (cs := [.slice none 0 0, .bool false, .int .i64 0, .int .i64 0, .int .i64 0, .int .u64 0, .int .u64 0, .bool false, .slice none 0 0, .int .i64 0]) (t := 33) ?hr ?_;
   (case hr => first | (go_simp; done) | (go_simp; rfl));
   intro gy XB n_;
   simp only [Act.put, zA, zZ, zS];
   clear H c_q z_q;
   have H := n_;
   clear n_;
   have c_y := H.out.cell (g := gy) aH;
   have z_y := H.out.frozen (g := gy) aH;
   have c_q := H.out.cell (g := gq) mem3)
 |((with_reducible refine aN (N := 13) rfl ?_);
   refine aX rfl H (cs := [.int .u64 0, .string ⟨#[]⟩, .bool false]) (t := 41) ?hr ?_;
   (case hr => first | (go_simp; done) | (go_simp; rfl));
   intro gx TP n_;
   simp only [Act.put, zA, zZ, zS];
   clear H c_y z_y c_q;
   have H := n_;
   clear n_;
   have c_x := H.out.cell (g := gx) aH;
   have z_x := H.out.frozen (g := gx) aH;
   have c_y := H.out.cell (g := gy) mem1;
   have z_y := H.out.frozen (g := gy) mem1;
   have c_q := H.out.cell (g := gq) bM)
 |((with_reducible refine aK (t := 33) (p := 12) rfl ?_);
   refine aV (rs1 := [box gx [.int .u64 0, .string ⟨#[]⟩, .bool false] 41, box gy [.slice A2 Q.L.l.length c2, .bool Q.L.dn, .int .i64 Q.L.fu, .int .i64 Q.L.fa, .int .i64 Q.L.size, .int .u64 Q.L.fr, .int .u64 Q.L.nx, .bool Q.L.br, .slice B2 Q.es.length d2, .int .i64 Q.most] 33, row k67 67 (.slice A2 (Q.L.l).length c2) Q.L.l, row k41 41 (.slice B2 (Q.es).length d2) Q.es, box gq [.slice A Q.L.l.length c, .bool Q.L.dn, .int .i64 Q.L.fu, .int .i64 Q.L.fa, .int .i64 Q.L.size, .int .u64 Q.L.fr, .int .u64 Q.L.nx, .bool Q.L.br, .slice B Q.es.length d, .int .i64 Q.most] 33, row k67 67 (.slice A (Q.L.l).length c) Q.L.l, row k41 41 (.slice B (Q.es).length d) Q.es]) rfl (t := 33) (p := 12) rfl rfl ?hr (H1 := (Sep.set1 (Sep.set1 (Sep.set1 (Sep.set1 (Sep.set1 (Sep.set1 (Sep.set1 (Sep.set1 (Sep.set1 (Sep.set1 H.out 0 (.slice A2 Q.L.l.length c2) rfl) 1 (.bool Q.L.dn) rfl) 2 (.int .i64 Q.L.fu) rfl) 3 (.int .i64 Q.L.fa) rfl) 4 (.int .i64 Q.L.size) rfl) 5 (.int .u64 Q.L.fr) rfl) 6 (.int .u64 Q.L.nx) rfl) 7 (.bool Q.L.br) rfl) 8 (.slice B2 Q.es.length d2) rfl) 9 (.int .i64 Q.most) rfl)) ?_;
   (case hr => first | (go_simp; done) | (go_simp; rfl));
   intro YZ n_;
   clear H c_x z_x c_y z_y c_q;
   have H := n_;
   clear n_;
   have c_x := H.out.cell (g := gx) aH;
   have z_x := H.out.frozen (g := gx) aH;
   have c_y := H.out.cell (g := gy) mem1;
   have z_y := H.out.frozen (g := gy) mem1;
   have c_q := H.out.cell (g := gq) bM)
 |((with_reducible refine aK (t := 41) (p := 13) rfl ?_);
   refine aV (rs1 := [box gx [.int .u64 0, .string ⟨#[]⟩, .bool false] 41, box gy [.slice A2 Q.L.l.length c2, .bool Q.L.dn, .int .i64 Q.L.fu, .int .i64 Q.L.fa, .int .i64 Q.L.size, .int .u64 Q.L.fr, .int .u64 Q.L.nx, .bool Q.L.br, .slice B2 Q.es.length d2, .int .i64 Q.most] 33, row k67 67 (.slice A2 (Q.L.l).length c2) Q.L.l, row k41 41 (.slice B2 (Q.es).length d2) Q.es, box gq [.slice A Q.L.l.length c, .bool Q.L.dn, .int .i64 Q.L.fu, .int .i64 Q.L.fa, .int .i64 Q.L.size, .int .u64 Q.L.fr, .int .u64 Q.L.nx, .bool Q.L.br, .slice B Q.es.length d, .int .i64 Q.most] 33, row k67 67 (.slice A (Q.L.l).length c) Q.L.l, row k41 41 (.slice B (Q.es).length d) Q.es]) rfl (t := 41) (p := 13) rfl rfl ?hr (H1 := (Sep.set0 (Sep.set0 (Sep.set0 H.out 0 (.int .u64 0) rfl) 1 (.string ⟨#[]⟩) rfl) 2 (.bool false) rfl)) ?_;
   (case hr => first | (go_simp; done) | (go_simp; rfl));
   intro Y0 n_;
   clear H c_x z_x c_y z_y c_q;
   have H := n_;
   clear n_;
   have c_x := H.out.cell (g := gx) aH;
   have z_x := H.out.frozen (g := gx) aH;
   have c_y := H.out.cell (g := gy) mem1;
   have z_y := H.out.frozen (g := gy) mem1;
   have c_q := H.out.cell (g := gq) bM)
 |fail)
      go_wp2_with fail
      go_ret
      exact ⟨by first | rfl | simp, H.out.below⟩
     ·
      rw [h1, h2] at HLE
      have HAK := aA.mk (fun A c B d w hr hc hre hce hG => NR A c B d Ql x.f0 w hr hc hre hce hG h3.1 h3.2.1 h3.2.2 h4 h5)
      rw [h6] at HAK
      have HPT := aA.mk (fun A c B d w hr hc hre hce hG => put_any A c B d Qd ⟨#[121]⟩ w hr hc hre hce hG h7.1 h7.2.1 h7.2.2)
      rw [h8, h9] at HPT
      dsimp only at HLE HAK HPT
      have hl0 : ¬ (Q.es.length : Int) = 0 := by omega
      have hl1 : ((Q.es.length : Int) == 0) = false := by simpa using hl0
      have hl2 : ((Qm.es.length : Int) == (Q.es.length : Int)) = true := by rw [h10]; simp
      have hl3 : (Qm.es.length : Int) = (Q.es.length : Int) := by rw [h10]
      clear h1 h2 h3 h4 h5 h6 h7 h8 h9 h10 he
      go_wp2_with fail
      refine ((HLE.out _ (H.out.reads mem1).2.2 (H.out.reads mem1).2.1 (H.out.reads mem2).2.2 (H.out.reads mem2).2.1 (HG.out.below H.out.below) HOK.out.1 HOK.out.2.1 HOK.out.2.2).mono ?_)
      rintro e TQ ⟨A2, c2, B2, d2, rfl, HJ⟩
      have n_ : aA (Sep w TQ [row k67 67 (.slice A2 (Ql.L.l).length c2) Ql.L.l, row k41 41 (.slice B2 (Ql.es).length d2) Ql.es, box gq [.slice A Q.L.l.length c, .bool Q.L.dn, .int .i64 Q.L.fu, .int .i64 Q.L.fa, .int .i64 Q.L.size, .int .u64 Q.L.fr, .int .u64 Q.L.nx, .bool Q.L.br, .slice B Q.es.length d, .int .i64 Q.most] 33, row k67 67 (.slice A (Q.L.l).length c) Q.L.l, row k41 41 (.slice B (Q.es).length d) Q.es]) := ⟨dI H.out HJ.out⟩
      clear H c_q z_q
      have H := n_
      clear n_
      have c_q := H.out.cell (g := gq) mem2
      have z_q := H.out.frozen (g := gq) mem2
      clear HJ
      simp only [qc, lgc, List.cons_append, List.nil_append]
      go_wp2_with (first
 |((with_reducible refine aN (N := 12) rfl ?_);
   refine aX rfl H (cs := [.slice none 0 0, .bool false, .int .i64 0, .int .i64 0, .int .i64 0, .int .u64 0, .int .u64 0, .bool false, .slice none 0 0, .int .i64 0]) (t := 33) ?hr ?_;
   (case hr => first | (go_simp; done) | (go_simp; rfl));
   intro gy qdI n_;
   simp only [Act.put, zA, zZ, zS];
   clear H c_q z_q;
   have H := n_;
   clear n_;
   have c_y := H.out.cell (g := gy) aH;
   have z_y := H.out.frozen (g := gy) aH;
   have c_q := H.out.cell (g := gq) mem3)
 |((with_reducible refine aN (N := 13) rfl ?_);
   refine aX rfl H (cs := [.int .u64 0, .string ⟨#[]⟩, .bool false]) (t := 41) ?hr ?_;
   (case hr => first | (go_simp; done) | (go_simp; rfl));
   intro gx qeI n_;
   simp only [Act.put, zA, zZ, zS];
   clear H c_y z_y c_q;
   have H := n_;
   clear n_;
   have c_x := H.out.cell (g := gx) aH;
   have z_x := H.out.frozen (g := gx) aH;
   have c_y := H.out.cell (g := gy) mem1;
   have z_y := H.out.frozen (g := gy) mem1;
   have c_q := H.out.cell (g := gq) bM)
 |((with_reducible refine aK (t := 33) (p := 12) rfl ?_);
   refine aV (rs1 := [box gx [.int .u64 0, .string ⟨#[]⟩, .bool false] 41, box gy [.slice A2 Ql.L.l.length c2, .bool Ql.L.dn, .int .i64 Ql.L.fu, .int .i64 Ql.L.fa, .int .i64 Ql.L.size, .int .u64 Ql.L.fr, .int .u64 Ql.L.nx, .bool Ql.L.br, .slice B2 Ql.es.length d2, .int .i64 Ql.most] 33, row k67 67 (.slice A2 (Ql.L.l).length c2) Ql.L.l, row k41 41 (.slice B2 (Ql.es).length d2) Ql.es, box gq [.slice A Q.L.l.length c, .bool Q.L.dn, .int .i64 Q.L.fu, .int .i64 Q.L.fa, .int .i64 Q.L.size, .int .u64 Q.L.fr, .int .u64 Q.L.nx, .bool Q.L.br, .slice B Q.es.length d, .int .i64 Q.most] 33, row k67 67 (.slice A (Q.L.l).length c) Q.L.l, row k41 41 (.slice B (Q.es).length d) Q.es]) rfl (t := 33) (p := 12) rfl rfl ?hr (H1 := (Sep.set1 (Sep.set1 (Sep.set1 (Sep.set1 (Sep.set1 (Sep.set1 (Sep.set1 (Sep.set1 (Sep.set1 (Sep.set1 H.out 0 (.slice A2 Ql.L.l.length c2) rfl) 1 (.bool Ql.L.dn) rfl) 2 (.int .i64 Ql.L.fu) rfl) 3 (.int .i64 Ql.L.fa) rfl) 4 (.int .i64 Ql.L.size) rfl) 5 (.int .u64 Ql.L.fr) rfl) 6 (.int .u64 Ql.L.nx) rfl) 7 (.bool Ql.L.br) rfl) 8 (.slice B2 Ql.es.length d2) rfl) 9 (.int .i64 Ql.most) rfl)) ?_;
   (case hr => first | (go_simp; done) | (go_simp; rfl));
   intro qeJ n_;
   clear H c_x z_x c_y z_y c_q;
   have H := n_;
   clear n_;
   have c_x := H.out.cell (g := gx) aH;
   have z_x := H.out.frozen (g := gx) aH;
   have c_y := H.out.cell (g := gy) mem1;
   have z_y := H.out.frozen (g := gy) mem1;
   have c_q := H.out.cell (g := gq) bM)
 |((with_reducible refine aK (t := 41) (p := 13) rfl ?_);
   refine aV (rs1 := [box gx [.int .u64 x.f0, .string x.f1, .bool true] 41, box gy [.slice A2 Ql.L.l.length c2, .bool Ql.L.dn, .int .i64 Ql.L.fu, .int .i64 Ql.L.fa, .int .i64 Ql.L.size, .int .u64 Ql.L.fr, .int .u64 Ql.L.nx, .bool Ql.L.br, .slice B2 Ql.es.length d2, .int .i64 Ql.most] 33, row k67 67 (.slice A2 (Ql.L.l).length c2) Ql.L.l, row k41 41 (.slice B2 (Ql.es).length d2) Ql.es, box gq [.slice A Q.L.l.length c, .bool Q.L.dn, .int .i64 Q.L.fu, .int .i64 Q.L.fa, .int .i64 Q.L.size, .int .u64 Q.L.fr, .int .u64 Q.L.nx, .bool Q.L.br, .slice B Q.es.length d, .int .i64 Q.most] 33, row k67 67 (.slice A (Q.L.l).length c) Q.L.l, row k41 41 (.slice B (Q.es).length d) Q.es]) rfl (t := 41) (p := 13) rfl rfl ?hr (H1 := (Sep.set0 (Sep.set0 (Sep.set0 H.out 0 (.int .u64 x.f0) rfl) 1 (.string x.f1) rfl) 2 (.bool true) rfl)) ?_;
   (case hr => first | (go_simp; done) | (go_simp; rfl));
   intro TR n_;
   clear H c_x z_x c_y z_y c_q;
   have H := n_;
   clear n_;
   have c_x := H.out.cell (g := gx) aH;
   have z_x := H.out.frozen (g := gx) aH;
   have c_y := H.out.cell (g := gy) mem1;
   have z_y := H.out.frozen (g := gy) mem1;
   have c_q := H.out.cell (g := gq) bM)
 |fail)
      refine ((HAK.out _ _ _ _ _ (H.out.reads mem2).2.2 (H.out.reads mem2).2.1 (H.out.reads mem3).2.2 (H.out.reads mem3).2.1 (HG.out.below H.out.below)).mono ?_)
      rintro e Y1 ⟨A3, c3, B3, d3, rfl, HJ⟩
      have n_ : aA (Sep w Y1 [row k67 67 (.slice A3 (Qd.L.l).length c3) Qd.L.l, row k41 41 (.slice B3 (Qd.es).length d3) Qd.es, box gx [.int .u64 x.f0, .string x.f1, .bool true] 41, box gy [.slice A2 Ql.L.l.length c2, .bool Ql.L.dn, .int .i64 Ql.L.fu, .int .i64 Ql.L.fa, .int .i64 Ql.L.size, .int .u64 Ql.L.fr, .int .u64 Ql.L.nx, .bool Ql.L.br, .slice B2 Ql.es.length d2, .int .i64 Ql.most] 33, row k67 67 (.slice A2 (Ql.L.l).length c2) Ql.L.l, row k41 41 (.slice B2 (Ql.es).length d2) Ql.es, box gq [.slice A Q.L.l.length c, .bool Q.L.dn, .int .i64 Q.L.fu, .int .i64 Q.L.fa, .int .i64 Q.L.size, .int .u64 Q.L.fr, .int .u64 Q.L.nx, .bool Q.L.br, .slice B Q.es.length d, .int .i64 Q.most] 33, row k67 67 (.slice A (Q.L.l).length c) Q.L.l, row k41 41 (.slice B (Q.es).length d) Q.es]) := ⟨dI H.out HJ.out⟩
      clear H c_x z_x c_y z_y c_q
      have H := n_
      clear n_
      have c_x := H.out.cell (g := gx) mem2
      have z_x := H.out.frozen (g := gx) mem2
      have c_y := H.out.cell (g := gy) mem3
      have z_y := H.out.frozen (g := gy) mem3
      have c_q := H.out.cell (g := gq) jM
      clear HJ
      simp only [qc, lgc, List.cons_append, List.nil_append]
      go_wp2_with (first
 |((with_reducible refine aN (N := 14) rfl ?_);
   refine aX rfl H (cs := [.slice none 0 0, .bool false, .int .i64 0, .int .i64 0, .int .i64 0, .int .u64 0, .int .u64 0, .bool false, .slice none 0 0, .int .i64 0]) (t := 33) ?hr ?_;
   (case hr => first | (go_simp; done) | (go_simp; rfl));
   intro gu qdJ n_;
   simp only [Act.put, zA, zZ, zS];
   clear H c_x z_x c_y z_y c_q;
   have H := n_;
   clear n_;
   have c_u := H.out.cell (g := gu) aH;
   have z_u := H.out.frozen (g := gu) aH;
   have c_x := H.out.cell (g := gx) mem3;
   have c_y := H.out.cell (g := gy) bM;
   have c_q := H.out.cell (g := gq) jE)
 |((with_reducible refine aK (t := 33) (p := 14) rfl ?_);
   refine aV (rs1 := [box gu [.slice A3 Qd.L.l.length c3, .bool Qd.L.dn, .int .i64 Qd.L.fu, .int .i64 Qd.L.fa, .int .i64 Qd.L.size, .int .u64 Qd.L.fr, .int .u64 Qd.L.nx, .bool Qd.L.br, .slice B3 Qd.es.length d3, .int .i64 Qd.most] 33, row k67 67 (.slice A3 (Qd.L.l).length c3) Qd.L.l, row k41 41 (.slice B3 (Qd.es).length d3) Qd.es, box gx [.int .u64 x.f0, .string x.f1, .bool true] 41, box gy [.slice A2 Ql.L.l.length c2, .bool Ql.L.dn, .int .i64 Ql.L.fu, .int .i64 Ql.L.fa, .int .i64 Ql.L.size, .int .u64 Ql.L.fr, .int .u64 Ql.L.nx, .bool Ql.L.br, .slice B2 Ql.es.length d2, .int .i64 Ql.most] 33, row k67 67 (.slice A2 (Ql.L.l).length c2) Ql.L.l, row k41 41 (.slice B2 (Ql.es).length d2) Ql.es, box gq [.slice A Q.L.l.length c, .bool Q.L.dn, .int .i64 Q.L.fu, .int .i64 Q.L.fa, .int .i64 Q.L.size, .int .u64 Q.L.fr, .int .u64 Q.L.nx, .bool Q.L.br, .slice B Q.es.length d, .int .i64 Q.most] 33, row k67 67 (.slice A (Q.L.l).length c) Q.L.l, row k41 41 (.slice B (Q.es).length d) Q.es]) rfl (t := 33) (p := 14) rfl rfl ?hr (H1 := (Sep.set0 (Sep.set0 (Sep.set0 (Sep.set0 (Sep.set0 (Sep.set0 (Sep.set0 (Sep.set0 (Sep.set0 (Sep.set0 H.out 0 (.slice A3 Qd.L.l.length c3) rfl) 1 (.bool Qd.L.dn) rfl) 2 (.int .i64 Qd.L.fu) rfl) 3 (.int .i64 Qd.L.fa) rfl) 4 (.int .i64 Qd.L.size) rfl) 5 (.int .u64 Qd.L.fr) rfl) 6 (.int .u64 Qd.L.nx) rfl) 7 (.bool Qd.L.br) rfl) 8 (.slice B3 Qd.es.length d3) rfl) 9 (.int .i64 Qd.most) rfl)) ?_;
   (case hr => first | (go_simp; done) | (go_simp; rfl));
   intro qeK n_;
   clear H c_u z_u c_x c_y c_q;
   have H := n_;
   clear n_;
   have c_u := H.out.cell (g := gu) aH;
   have z_u := H.out.frozen (g := gu) aH;
   have c_x := H.out.cell (g := gx) mem3;
   have c_y := H.out.cell (g := gy) bM;
   have c_q := H.out.cell (g := gq) jE)
 |fail)
      refine ((HPT.out _ _ _ _ _ (H.out.reads mem1).2.2 (H.out.reads mem1).2.1 (H.out.reads mem2).2.2 (H.out.reads mem2).2.1 (HG.out.below H.out.below)).mono ?_)
      rintro e qeL ⟨A4, c4, B4, d4, rfl, HJ⟩
      have n_ : aA (Sep w qeL [row k67 67 (.slice A4 (Qm.L.l).length c4) Qm.L.l, row k41 41 (.slice B4 (Qm.es).length d4) Qm.es, box gu [.slice A3 Qd.L.l.length c3, .bool Qd.L.dn, .int .i64 Qd.L.fu, .int .i64 Qd.L.fa, .int .i64 Qd.L.size, .int .u64 Qd.L.fr, .int .u64 Qd.L.nx, .bool Qd.L.br, .slice B3 Qd.es.length d3, .int .i64 Qd.most] 33, row k67 67 (.slice A3 (Qd.L.l).length c3) Qd.L.l, row k41 41 (.slice B3 (Qd.es).length d3) Qd.es, box gx [.int .u64 x.f0, .string x.f1, .bool true] 41, box gy [.slice A2 Ql.L.l.length c2, .bool Ql.L.dn, .int .i64 Ql.L.fu, .int .i64 Ql.L.fa, .int .i64 Ql.L.size, .int .u64 Ql.L.fr, .int .u64 Ql.L.nx, .bool Ql.L.br, .slice B2 Ql.es.length d2, .int .i64 Ql.most] 33, row k67 67 (.slice A2 (Ql.L.l).length c2) Ql.L.l, row k41 41 (.slice B2 (Ql.es).length d2) Ql.es, box gq [.slice A Q.L.l.length c, .bool Q.L.dn, .int .i64 Q.L.fu, .int .i64 Q.L.fa, .int .i64 Q.L.size, .int .u64 Q.L.fr, .int .u64 Q.L.nx, .bool Q.L.br, .slice B Q.es.length d, .int .i64 Q.most] 33, row k67 67 (.slice A (Q.L.l).length c) Q.L.l, row k41 41 (.slice B (Q.es).length d) Q.es]) := ⟨dI H.out HJ.out⟩
      clear H c_u z_u c_x c_y c_q
      have H := n_
      clear n_
      have c_u := H.out.cell (g := gu) mem2
      have z_u := H.out.frozen (g := gu) mem2
      have c_x := H.out.cell (g := gx) dM
      have c_y := H.out.cell (g := gy) jM
      have c_q := H.out.cell (g := gq) F9
      clear HJ
      simp only [qc, lgc, List.cons_append, List.nil_append]
      go_wp2_with (first
 |((with_reducible refine aN (N := 16) rfl ?_);
   refine aX rfl H (cs := [.slice none 0 0, .bool false, .int .i64 0, .int .i64 0, .int .i64 0, .int .u64 0, .int .u64 0, .bool false, .slice none 0 0, .int .i64 0]) (t := 33) ?hr ?_;
   (case hr => first | (go_simp; done) | (go_simp; rfl));
   intro gv qf8 n_;
   simp only [Act.put, zA, zZ, zS];
   clear H c_u z_u c_x c_y c_q;
   have H := n_;
   clear n_;
   have c_v := H.out.cell (g := gv) aH;
   have z_v := H.out.frozen (g := gv) aH;
   have c_u := H.out.cell (g := gu) mem3;
   have c_x := H.out.cell (g := gx) jM;
   have c_y := H.out.cell (g := gy) jE;
   have c_q := H.out.cell (g := gq) wO)
 |((with_reducible refine aK (t := 33) (p := 16) rfl ?_);
   refine aV (rs1 := [box gv [.slice A4 Qm.L.l.length c4, .bool Qm.L.dn, .int .i64 Qm.L.fu, .int .i64 Qm.L.fa, .int .i64 Qm.L.size, .int .u64 Qm.L.fr, .int .u64 Qm.L.nx, .bool Qm.L.br, .slice B4 Qm.es.length d4, .int .i64 Qm.most] 33, row k67 67 (.slice A4 (Qm.L.l).length c4) Qm.L.l, row k41 41 (.slice B4 (Qm.es).length d4) Qm.es, box gu [.slice A3 Qd.L.l.length c3, .bool Qd.L.dn, .int .i64 Qd.L.fu, .int .i64 Qd.L.fa, .int .i64 Qd.L.size, .int .u64 Qd.L.fr, .int .u64 Qd.L.nx, .bool Qd.L.br, .slice B3 Qd.es.length d3, .int .i64 Qd.most] 33, row k67 67 (.slice A3 (Qd.L.l).length c3) Qd.L.l, row k41 41 (.slice B3 (Qd.es).length d3) Qd.es, box gx [.int .u64 x.f0, .string x.f1, .bool true] 41, box gy [.slice A2 Ql.L.l.length c2, .bool Ql.L.dn, .int .i64 Ql.L.fu, .int .i64 Ql.L.fa, .int .i64 Ql.L.size, .int .u64 Ql.L.fr, .int .u64 Ql.L.nx, .bool Ql.L.br, .slice B2 Ql.es.length d2, .int .i64 Ql.most] 33, row k67 67 (.slice A2 (Ql.L.l).length c2) Ql.L.l, row k41 41 (.slice B2 (Ql.es).length d2) Ql.es, box gq [.slice A Q.L.l.length c, .bool Q.L.dn, .int .i64 Q.L.fu, .int .i64 Q.L.fa, .int .i64 Q.L.size, .int .u64 Q.L.fr, .int .u64 Q.L.nx, .bool Q.L.br, .slice B Q.es.length d, .int .i64 Q.most] 33, row k67 67 (.slice A (Q.L.l).length c) Q.L.l, row k41 41 (.slice B (Q.es).length d) Q.es]) rfl (t := 33) (p := 16) rfl rfl ?hr (H1 := (Sep.set0 (Sep.set0 (Sep.set0 (Sep.set0 (Sep.set0 (Sep.set0 (Sep.set0 (Sep.set0 (Sep.set0 (Sep.set0 H.out 0 (.slice A4 Qm.L.l.length c4) rfl) 1 (.bool Qm.L.dn) rfl) 2 (.int .i64 Qm.L.fu) rfl) 3 (.int .i64 Qm.L.fa) rfl) 4 (.int .i64 Qm.L.size) rfl) 5 (.int .u64 Qm.L.fr) rfl) 6 (.int .u64 Qm.L.nx) rfl) 7 (.bool Qm.L.br) rfl) 8 (.slice B4 Qm.es.length d4) rfl) 9 (.int .i64 Qm.most) rfl)) ?_;
   (case hr => first | (go_simp; done) | (go_simp; rfl));
   intro qf9 n_;
   clear H c_v z_v c_u c_x c_y c_q;
   have H := n_;
   clear n_;
   have c_v := H.out.cell (g := gv) aH;
   have z_v := H.out.frozen (g := gv) aH;
   have c_u := H.out.cell (g := gu) mem3;
   have c_x := H.out.cell (g := gx) jM;
   have c_y := H.out.cell (g := gy) jE;
   have c_q := H.out.cell (g := gq) wO)
 |fail)
      go_wp2_with fail
      go_ret
      exact ⟨by first | rfl | simp, H.out.below⟩
end Go.Proofs.YtanonhipicoigaaGreatDoor.U
