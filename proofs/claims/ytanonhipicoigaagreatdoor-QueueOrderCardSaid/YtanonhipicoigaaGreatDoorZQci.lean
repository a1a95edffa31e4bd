import Derived.BigRegion
import Derived.LoopN
import Derived.Deep.DeepCutAuto
import Derived.Test.YtanonhipicoigaaGreatDoorZQbv
import Derived.Test.YtanonhipicoigaaGreatDoorZQau
import Derived.Test.YtanonhipicoigaaGreatDoorZQag
set_option linter.unusedVariables false
set_option linter.unusedSimpArgs false
namespace Go.Proofs.YtanonhipicoigaaGreatDoor.U
open Go.RowKit Go.Proofs.YW.PrintWords Go.Proofs.YW.PrintLast Go.Proofs.YW.PrintMore Go.Proofs.YtanonhipicoigaaGreatDoor.Sp Go.Proofs.YtanonhipicoigaaGreatDoor.eP
set_option maxHeartbeats 1600000 in
set_option maxRecDepth 100000 in
theorem qam (size most : Int) (Ad : Option Addr) (cd : Nat) (data : List ByteArray) (w : World) (hr : Kd.C Kd.string w Ad data.length data) (hc : data.length ≤ cd) (hG : Gl w) :
  Calls Tryz.prog 10 #[.int .i64 size, .int .i64 most, .slice Ad data.length cd] w fun e w' => e = .returned (.bool true) ∧ Below w.heap.size w w' := by
 have HRp := aA.mk hr
 have HG := aA.mk hG
 have HDL := aA.mk (Kd.qao hr : data.length ≤ 9223372036854775807)
 clear hr hc hG
 have H := aA.mk (Sep.start w)
 go_enter Tryz.func10, Tryz.ntmps10
 go_wp2_with fail
 refine ((wL _ (HG.out.below H.out.below)).mono ?_)
 rintro e wd1 ⟨rfl, hb_⟩
 have n_ : aA (Sep w wd1 []) := ⟨H.out.step hb_⟩
 clear H
 have H := n_
 clear n_
 clear hb_
 go_wp2_with fail
 refine ((jI.calls [] false (-1) (-1) _ rfl).mono ?_)
 rintro e wd2 ⟨v_, rfl, ho_, hb_⟩
 obtain ⟨Af, cf, eo_⟩ := Kd.dU ho_
 subst eo_
 have n_ : aA (Sep w wd2 [row k67 67 (.slice Af (([] : List S67)).length cf) (([] : List S67))]) := ⟨Sep.iL H.out hb_ ho_ kN⟩
 clear H
 have H := n_
 clear n_
 clear ho_ hb_
 have HOP := aA.mk (fun A c w hr hc hG => sG A c [] false (-1) (-1) size most w hr hc hG)
 by_cases hm : (most < 1 ∨ 1024 < most) ∨ (size < 1 ∨ 262144 < size)
 ·
  rw [show jH [] false (-1) (-1) size most = (Qz, 2) from hm.elim DV Z7] at HOP
  dsimp only at HOP
  clear hm
  go_wp2_with fail
  refine ((HOP.out _ _ _ (H.out.reads aH).2.2 (H.out.reads aH).2.1 (HG.out.below H.out.below)).mono ?_)
  rintro e wd3 ⟨A1, c1, B1, d1, rfl, HJ⟩
  have n_ : aA (Sep w wd3 [row k67 67 (.slice A1 (Qz.L.l).length c1) Qz.L.l, row k41 41 (.slice B1 (Qz.es).length d1) Qz.es, row k67 67 (.slice Af (([] : List S67)).length cf) (([] : List S67))]) := ⟨dI H.out HJ.out⟩
  clear H
  have H := n_
  clear n_
  clear HJ
  simp only [qc, lgc, List.cons_append, List.nil_append]
  go_wp2_with (first
 |((with_reducible refine aN (N := 7) rfl ?_);
   refine aX rfl H (cs := [.slice none 0 0, .bool false, .int .i64 0, .int .i64 0, .int .i64 0, .int .u64 0, .int .u64 0, .bool false, .slice none 0 0, .int .i64 0]) (t := 33) ?hr ?_;
   (case hr => first | (go_simp; done) | (go_simp; rfl));
   intro gq wd4 n_;
   simp only [Act.put, zA, zZ, zS];
   clear H;
   have H := n_;
   clear n_;
   have c_q := H.out.cell (g := gq) aH;
   have z_q := H.out.frozen (g := gq) aH)
 |((with_reducible refine aK (t := 33) (p := 7) rfl ?_);
   refine aV (rs1 := [box gq [.slice A1 Qz.L.l.length c1, .bool Qz.L.dn, .int .i64 Qz.L.fu, .int .i64 Qz.L.fa, .int .i64 Qz.L.size, .int .u64 Qz.L.fr, .int .u64 Qz.L.nx, .bool Qz.L.br, .slice B1 Qz.es.length d1, .int .i64 Qz.most] 33, row k67 67 (.slice A1 (Qz.L.l).length c1) Qz.L.l, row k41 41 (.slice B1 (Qz.es).length d1) Qz.es, row k67 67 (.slice Af (([] : List S67)).length cf) (([] : List S67))]) rfl (t := 33) (p := 7) rfl rfl ?hr (H1 := (Sep.set0 (Sep.set0 (Sep.set0 (Sep.set0 (Sep.set0 (Sep.set0 (Sep.set0 (Sep.set0 (Sep.set0 (Sep.set0 H.out 0 (.slice A1 Qz.L.l.length c1) rfl) 1 (.bool Qz.L.dn) rfl) 2 (.int .i64 Qz.L.fu) rfl) 3 (.int .i64 Qz.L.fa) rfl) 4 (.int .i64 Qz.L.size) rfl) 5 (.int .u64 Qz.L.fr) rfl) 6 (.int .u64 Qz.L.nx) rfl) 7 (.bool Qz.L.br) rfl) 8 (.slice B1 Qz.es.length d1) rfl) 9 (.int .i64 Qz.most) rfl)) ?_;
   (case hr => first | (go_simp; done) | (go_simp; rfl));
   intro wd5 n_;
   clear H c_q z_q;
   have H := n_;
   clear n_;
   have c_q := H.out.cell (g := gq) aH;
   have z_q := H.out.frozen (g := gq) aH)
 |fail)
  go_wp2_with fail
  go_ret
  exact ⟨by first | rfl | simp, H.out.below⟩
 ·
  rw [KE (by omega) (by omega) (by omega) (by omega)] at HOP
  obtain ⟨Q0, hQ0⟩ : ∃ Q0 : Qu, Q0 = ⟨L0s size, [], most⟩ := ⟨_, rfl⟩
  have HF0 : aA (rM most Q0 [] 1) := ⟨by rw [hQ0]; exact qfn (by omega) (by omega) (by omega) (by omega)⟩
  have HM0 : aA (0 ≤ most ∧ most ≤ 1024) := ⟨by omega⟩
  rw [← hQ0] at HOP
  dsimp only at HOP
  clear hm hQ0
  go_wp2_with fail
  refine ((HOP.out _ _ _ (H.out.reads aH).2.2 (H.out.reads aH).2.1 (HG.out.below H.out.below)).mono ?_)
  rintro e wd6 ⟨A0, c0, B0, d0, rfl, HJ⟩
  have n_ : aA (Sep w wd6 [row k67 67 (.slice A0 (Q0.L.l).length c0) Q0.L.l, row k41 41 (.slice B0 (Q0.es).length d0) Q0.es, row k67 67 (.slice Af (([] : List S67)).length cf) (([] : List S67))]) := ⟨dI H.out HJ.out⟩
  clear H
  have H := n_
  clear n_
  clear HJ
  simp only [qc, lgc, List.cons_append, List.nil_append]
  have n_ : aA (Sep w wd6 [row k67 67 (.slice A0 (Q0.L.l).length c0) Q0.L.l, row k41 41 (.slice B0 (Q0.es).length d0) Q0.es]) := ⟨Sep.drop2 H.out⟩
  clear H
  have H := n_
  clear n_
  clear HOP
  go_wp2_with (first
 |((with_reducible refine aN (N := 7) rfl ?_);
   refine aX rfl H (cs := [.slice none 0 0, .bool false, .int .i64 0, .int .i64 0, .int .i64 0, .int .u64 0, .int .u64 0, .bool false, .slice none 0 0, .int .i64 0]) (t := 33) ?hr ?_;
   (case hr => first | (go_simp; done) | (go_simp; rfl));
   intro gq wd7 n_;
   simp only [Act.put, zA, zZ, zS];
   clear H;
   have H := n_;
   clear n_;
   have c_q := H.out.cell (g := gq) aH;
   have z_q := H.out.frozen (g := gq) aH)
 |((with_reducible refine aK (t := 33) (p := 7) rfl ?_);
   refine aV (rs1 := [box gq [.slice A0 Q0.L.l.length c0, .bool Q0.L.dn, .int .i64 Q0.L.fu, .int .i64 Q0.L.fa, .int .i64 Q0.L.size, .int .u64 Q0.L.fr, .int .u64 Q0.L.nx, .bool Q0.L.br, .slice B0 Q0.es.length d0, .int .i64 Q0.most] 33, row k67 67 (.slice A0 (Q0.L.l).length c0) Q0.L.l, row k41 41 (.slice B0 (Q0.es).length d0) Q0.es]) rfl (t := 33) (p := 7) rfl rfl ?hr (H1 := (Sep.set0 (Sep.set0 (Sep.set0 (Sep.set0 (Sep.set0 (Sep.set0 (Sep.set0 (Sep.set0 (Sep.set0 (Sep.set0 H.out 0 (.slice A0 Q0.L.l.length c0) rfl) 1 (.bool Q0.L.dn) rfl) 2 (.int .i64 Q0.L.fu) rfl) 3 (.int .i64 Q0.L.fa) rfl) 4 (.int .i64 Q0.L.size) rfl) 5 (.int .u64 Q0.L.fr) rfl) 6 (.int .u64 Q0.L.nx) rfl) 7 (.bool Q0.L.br) rfl) 8 (.slice B0 Q0.es.length d0) rfl) 9 (.int .i64 Q0.most) rfl)) ?_;
   (case hr => first | (go_simp; done) | (go_simp; rfl));
   intro wd8 n_;
   clear H c_q z_q;
   have H := n_;
   clear n_;
   have c_q := H.out.cell (g := gq) aH;
   have z_q := H.out.frozen (g := gq) aH)
 |fail)
  go_loopw [6, 9, 11, 12, 13, 14, 39] (fun v6 v9 v11 v12 v13 v14 v39 wr => ∃ (i : Nat) (Q : Qu) (want : List ByteArray) (A : Option Addr) (c : Nat) (B : Option Addr) (d : Nat) (Ao : Option Addr) (co : Nat), v39 = .int .i64 (i : Int) ∧ v9 = .slice Ao want.length co ∧ i ≤ data.length ∧ aA (rM most Q want (want.length + 1)) ∧ aA ((want.length : Int) ≤ most) ∧ aA (Sep w wr [box gq [.slice A Q.L.l.length c, .bool Q.L.dn, .int .i64 Q.L.fu, .int .i64 Q.L.fa, .int .i64 Q.L.size, .int .u64 Q.L.fr, .int .u64 Q.L.nx, .bool Q.L.br, .slice B Q.es.length d, .int .i64 Q.most] 33, row k67 67 (.slice A (Q.L.l).length c) Q.L.l, row k41 41 (.slice B (Q.es).length d) Q.es, row Kd.string 9 (.slice Ao (want).length co) want])) (fun _ _ _ _ _ _ v39 _ => data.length - (intOf v39).toNat)
  case atStart => exact ⟨0, Q0, [], A0, c0, B0, d0, none, 0, rfl, rfl, Nat.zero_le _, HF0, ⟨HM0.out.1⟩, ⟨(Sep.kF (Sep.kF (Sep.kF (Sep.eG (d := Kd.string) (e := 9) H.out))))⟩⟩
  case round =>
   clear H c_q z_q
   obtain ⟨i, Q, want, A, c, B, d, Ao, co, rfl, rfl, hi, HF, HWL, H⟩ := hrel
   have c_q := H.out.cell (g := gq) aH
   have z_q := H.out.frozen (g := gq) aH
   have HOK := aA.mk HF.out.okr
   by_cases hil : i < data.length
   ·
    obtain ⟨ad, e1, hk⟩ := Kd.Q7 (H.out.came HRp.out) (i : Int) (by omega) (by omega)
    subst e1
    simp only [Int.toNat_natCast] at hk
    obtain ⟨s, hs⟩ : ∃ s, s = X9 ByteArray.empty data (i : Int) := ⟨_, rfl⟩
    rw [← hs] at hk
    clear hs
    have hi2 : (i : Int) < (data.length : Int) := by omega
    have hi0 : (0 : Int) ≤ (i : Int) := by omega
    have hw3 : wrap64 ((i : Int) + 1) = ((i + 1 : Nat) : Int) := by
     have := HDL.out
     unfold wrap64
     omega
    obtain ⟨Q2, e, sq, h1, h2, h3, h4⟩ := HF.out.put s HWL.out
    have HPT := aA.mk (put_any A c B d Q s)
    rw [h1, h2] at HPT
    dsimp only at HPT
    clear h1 h2 h3
    go_wp2_with fail
    refine ((HPT.out _ (H.out.reads mem1).2.2 (H.out.reads mem1).2.1 (H.out.reads mem2).2.2 (H.out.reads mem2).2.1 (HG.out.below H.out.below) HOK.out.1 HOK.out.2.1 HOK.out.2.2).mono ?_)
    rintro e wd9 ⟨A2, c2, B2, d2, rfl, HJ⟩
    have n_ : aA (Sep w wd9 [row k67 67 (.slice A2 (Q2.L.l).length c2) Q2.L.l, row k41 41 (.slice B2 (Q2.es).length d2) Q2.es, box gq [.slice A Q.L.l.length c, .bool Q.L.dn, .int .i64 Q.L.fu, .int .i64 Q.L.fa, .int .i64 Q.L.size, .int .u64 Q.L.fr, .int .u64 Q.L.nx, .bool Q.L.br, .slice B Q.es.length d, .int .i64 Q.most] 33, row k67 67 (.slice A (Q.L.l).length c) Q.L.l, row k41 41 (.slice B (Q.es).length d) Q.es, row Kd.string 9 (.slice Ao (want).length co) want]) := ⟨dI H.out HJ.out⟩
    clear H c_q z_q
    have H := n_
    clear n_
    have c_q := H.out.cell (g := gq) mem2
    have z_q := H.out.frozen (g := gq) mem2
    clear HJ
    simp only [qc, lgc, List.cons_append, List.nil_append]
    clear hk HPT
    rcases h4 with ⟨rfl, h5, h6⟩ | ⟨hne, h5⟩
    ·
     have HF2 := aA.mk h5
     have HL2 := aA.mk h6
     have hwl : want.length ≤ 1024 := by have h1 := HWL.out; have h2 := HM0.out; omega
     clear h5 h6
     have n_ : aA (Sep w wd9 [row k67 67 (.slice A2 (Q2.L.l).length c2) Q2.L.l, row k41 41 (.slice B2 (Q2.es).length d2) Q2.es, box gq [.slice A Q.L.l.length c, .bool Q.L.dn, .int .i64 Q.L.fu, .int .i64 Q.L.fa, .int .i64 Q.L.size, .int .u64 Q.L.fr, .int .u64 Q.L.nx, .bool Q.L.br, .slice B Q.es.length d, .int .i64 Q.most] 33, row k41 41 (.slice B (Q.es).length d) Q.es, row Kd.string 9 (.slice Ao (want).length co) want]) := ⟨Sep.iZ H.out⟩
     clear H c_q z_q
     have H := n_
     clear n_
     have c_q := H.out.cell (g := gq) mem2
     have z_q := H.out.frozen (g := gq) mem2
     have n_ : aA (Sep w wd9 [row k67 67 (.slice A2 (Q2.L.l).length c2) Q2.L.l, row k41 41 (.slice B2 (Q2.es).length d2) Q2.es, box gq [.slice A Q.L.l.length c, .bool Q.L.dn, .int .i64 Q.L.fu, .int .i64 Q.L.fa, .int .i64 Q.L.size, .int .u64 Q.L.fr, .int .u64 Q.L.nx, .bool Q.L.br, .slice B Q.es.length d, .int .i64 Q.most] 33, row Kd.string 9 (.slice Ao (want).length co) want]) := ⟨Sep.iZ H.out⟩
     clear H c_q z_q
     have H := n_
     clear n_
     have c_q := H.out.cell (g := gq) mem2
     have z_q := H.out.frozen (g := gq) mem2
     clear c_q z_q
     have c_q := H.out.cell (g := gq) mem2
     have z_q := H.out.frozen (g := gq) mem2
     go_wp2_with (first
 |((with_reducible refine aN (N := 12) rfl ?_);
   refine aX rfl H (cs := [.slice none 0 0, .bool false, .int .i64 0, .int .i64 0, .int .i64 0, .int .u64 0, .int .u64 0, .bool false, .slice none 0 0, .int .i64 0]) (t := 33) ?hr ?_;
   (case hr => first | (go_simp; done) | (go_simp; rfl));
   intro gy DC n_;
   simp only [Act.put, zA, zZ, zS];
   clear H c_q z_q;
   have H := n_;
   clear n_;
   have c_y := H.out.cell (g := gy) aH;
   have z_y := H.out.frozen (g := gy) aH;
   have c_q := H.out.cell (g := gq) mem3;
   have z_q := H.out.frozen (g := gq) mem3)
 |((with_reducible refine aK (t := 33) (p := 12) rfl ?_);
   refine aV (rs1 := [box gy [.slice A2 Q2.L.l.length c2, .bool Q2.L.dn, .int .i64 Q2.L.fu, .int .i64 Q2.L.fa, .int .i64 Q2.L.size, .int .u64 Q2.L.fr, .int .u64 Q2.L.nx, .bool Q2.L.br, .slice B2 Q2.es.length d2, .int .i64 Q2.most] 33, row k67 67 (.slice A2 (Q2.L.l).length c2) Q2.L.l, row k41 41 (.slice B2 (Q2.es).length d2) Q2.es, box gq [.slice A Q.L.l.length c, .bool Q.L.dn, .int .i64 Q.L.fu, .int .i64 Q.L.fa, .int .i64 Q.L.size, .int .u64 Q.L.fr, .int .u64 Q.L.nx, .bool Q.L.br, .slice B Q.es.length d, .int .i64 Q.most] 33, row Kd.string 9 (.slice Ao (want).length co) want]) rfl (t := 33) (p := 12) rfl rfl ?hr (H1 := (Sep.set0 (Sep.set0 (Sep.set0 (Sep.set0 (Sep.set0 (Sep.set0 (Sep.set0 (Sep.set0 (Sep.set0 (Sep.set0 H.out 0 (.slice A2 Q2.L.l.length c2) rfl) 1 (.bool Q2.L.dn) rfl) 2 (.int .i64 Q2.L.fu) rfl) 3 (.int .i64 Q2.L.fa) rfl) 4 (.int .i64 Q2.L.size) rfl) 5 (.int .u64 Q2.L.fr) rfl) 6 (.int .u64 Q2.L.nx) rfl) 7 (.bool Q2.L.br) rfl) 8 (.slice B2 Q2.es.length d2) rfl) 9 (.int .i64 Q2.most) rfl)) ?_;
   (case hr => first | (go_simp; done) | (go_simp; rfl));
   intro MO n_;
   clear H c_y z_y c_q z_q;
   have H := n_;
   clear n_;
   have c_y := H.out.cell (g := gy) aH;
   have z_y := H.out.frozen (g := gy) aH;
   have c_q := H.out.cell (g := gq) mem3;
   have z_q := H.out.frozen (g := gq) mem3)
 |((with_reducible refine aK (t := 33) (p := 7) rfl ?_);
   refine aV (rs1 := [box gy [.slice A2 Q2.L.l.length c2, .bool Q2.L.dn, .int .i64 Q2.L.fu, .int .i64 Q2.L.fa, .int .i64 Q2.L.size, .int .u64 Q2.L.fr, .int .u64 Q2.L.nx, .bool Q2.L.br, .slice B2 Q2.es.length d2, .int .i64 Q2.most] 33, row k67 67 (.slice A2 (Q2.L.l).length c2) Q2.L.l, row k41 41 (.slice B2 (Q2.es).length d2) Q2.es, box gq [.slice A2 Q2.L.l.length c2, .bool Q2.L.dn, .int .i64 Q2.L.fu, .int .i64 Q2.L.fa, .int .i64 Q2.L.size, .int .u64 Q2.L.fr, .int .u64 Q2.L.nx, .bool Q2.L.br, .slice B2 Q2.es.length d2, .int .i64 Q2.most] 33, row Kd.string 9 (.slice Ao (want).length co) want]) rfl (t := 33) (p := 7) rfl rfl ?hr (H1 := (Sep.dQ (Sep.dQ (Sep.dQ (Sep.dQ (Sep.dQ (Sep.dQ (Sep.dQ (Sep.dQ (Sep.dQ (Sep.dQ H.out 0 (.slice A2 Q2.L.l.length c2) rfl) 1 (.bool Q2.L.dn) rfl) 2 (.int .i64 Q2.L.fu) rfl) 3 (.int .i64 Q2.L.fa) rfl) 4 (.int .i64 Q2.L.size) rfl) 5 (.int .u64 Q2.L.fr) rfl) 6 (.int .u64 Q2.L.nx) rfl) 7 (.bool Q2.L.br) rfl) 8 (.slice B2 Q2.es.length d2) rfl) 9 (.int .i64 Q2.most) rfl)) ?_;
   (case hr => first | (go_simp; done) | (go_simp; rfl));
   intro yV n_;
   clear H c_y z_y c_q z_q;
   have H := n_;
   clear n_;
   have c_y := H.out.cell (g := gy) aH;
   have z_y := H.out.frozen (g := gy) aH;
   have c_q := H.out.cell (g := gq) mem3;
   have z_q := H.out.frozen (g := gq) mem3)
 |((with_reducible refine iQ (b := .append) (xs := #[.tmp 53, .tmp 55]) rfl ?_); at_builtin;
   refine qc8 Kd.string VZ rfl (.tmp 53) (.tmp 55) 22 9 (.string ⟨#[]⟩) 16 rfl Tryz.underlying22 info9 rfl (by decide) (by omega) (.slice Ao (want).length co) _ s [.string s] ?hs ?hx ?hp H ?hl ?_;
   (case hs => first | rfl | (go_simp; done) | (simp; rfl));
   (case hx => first | (go_simp; done) | (go_simp; rfl));
   (case hp => exact rfl);
   (case hl => omega);
   intro Ao2 co2 DF n_;
   clear H c_y z_y c_q z_q;
   have H := n_;
   clear n_;
   have c_y := H.out.cell (g := gy) aH;
   have z_y := H.out.frozen (g := gy) aH;
   have c_q := H.out.cell (g := gq) mem3;
   have z_q := H.out.frozen (g := gq) mem3)
 |fail)
     try rw [hw3]
     have hll : want.length + 1 = (want ++ [s]).length := by rw [List.length_append]; rfl
     rw [hll]
     exact ⟨⟨i + 1, Q2, want ++ [s], A2, c2, B2, d2, Ao2, co2, rfl, rfl, by omega, HF2, HL2, ⟨(Sep.kF (Sep.gV (Sep.gV (Sep.kF (Sep.dW H.out)))))⟩⟩, by simp [intOf] <;> omega⟩
    ·
     have hne1 : (e == 0) = false := by simpa using hne
     cases hbr : Q2.L.br
     ·
      by_cases hsz : (s.size : Int) < 65536
      ·
       have hln : ¬ (Q.es.length : Int) < most := by
        rcases h5 with h5 | h5 | h5
        ·rw [hbr] at h5
         cases h5
        ·omega
        ·omega
       clear h5
       go_wp2_with (first
 |((with_reducible refine aN (N := 12) rfl ?_);
   refine aX rfl H (cs := [.slice none 0 0, .bool false, .int .i64 0, .int .i64 0, .int .i64 0, .int .u64 0, .int .u64 0, .bool false, .slice none 0 0, .int .i64 0]) (t := 33) ?hr ?_;
   (case hr => first | (go_simp; done) | (go_simp; rfl));
   intro gy PE n_;
   simp only [Act.put, zA, zZ, zS];
   clear H c_q z_q;
   have H := n_;
   clear n_;
   have c_y := H.out.cell (g := gy) aH;
   have z_y := H.out.frozen (g := gy) aH;
   have c_q := H.out.cell (g := gq) mem3)
 |((with_reducible refine aK (t := 33) (p := 12) rfl ?_);
   refine aV (rs1 := [box gy [.slice A2 Q2.L.l.length c2, .bool Q2.L.dn, .int .i64 Q2.L.fu, .int .i64 Q2.L.fa, .int .i64 Q2.L.size, .int .u64 Q2.L.fr, .int .u64 Q2.L.nx, .bool false, .slice B2 Q2.es.length d2, .int .i64 Q2.most] 33, row k67 67 (.slice A2 (Q2.L.l).length c2) Q2.L.l, row k41 41 (.slice B2 (Q2.es).length d2) Q2.es, box gq [.slice A Q.L.l.length c, .bool Q.L.dn, .int .i64 Q.L.fu, .int .i64 Q.L.fa, .int .i64 Q.L.size, .int .u64 Q.L.fr, .int .u64 Q.L.nx, .bool Q.L.br, .slice B Q.es.length d, .int .i64 Q.most] 33, row k67 67 (.slice A (Q.L.l).length c) Q.L.l, row k41 41 (.slice B (Q.es).length d) Q.es, row Kd.string 9 (.slice Ao (want).length co) want]) rfl (t := 33) (p := 12) rfl rfl ?hr (H1 := (Sep.set0 (Sep.set0 (Sep.set0 (Sep.set0 (Sep.set0 (Sep.set0 (Sep.set0 (Sep.set0 (Sep.set0 (Sep.set0 H.out 0 (.slice A2 Q2.L.l.length c2) rfl) 1 (.bool Q2.L.dn) rfl) 2 (.int .i64 Q2.L.fu) rfl) 3 (.int .i64 Q2.L.fa) rfl) 4 (.int .i64 Q2.L.size) rfl) 5 (.int .u64 Q2.L.fr) rfl) 6 (.int .u64 Q2.L.nx) rfl) 7 (.bool false) rfl) 8 (.slice B2 Q2.es.length d2) rfl) 9 (.int .i64 Q2.most) rfl)) ?_;
   (case hr => first | (go_simp; done) | (go_simp; rfl));
   intro DI n_;
   clear H c_y z_y c_q;
   have H := n_;
   clear n_;
   have c_y := H.out.cell (g := gy) aH;
   have z_y := H.out.frozen (g := gy) aH;
   have c_q := H.out.cell (g := gq) mem3)
 |fail)
       try rw [hw3]
       exact ⟨⟨i + 1, Q, want, A, c, B, d, Ao, co, rfl, rfl, by omega, HF, HWL, ⟨(Sep.dW (Sep.drop1 (Sep.drop2 H.out)))⟩⟩, by simp [intOf] <;> omega⟩
      ·
       clear h5
       go_wp2_with (first
 |((with_reducible refine aN (N := 12) rfl ?_);
   refine aX rfl H (cs := [.slice none 0 0, .bool false, .int .i64 0, .int .i64 0, .int .i64 0, .int .u64 0, .int .u64 0, .bool false, .slice none 0 0, .int .i64 0]) (t := 33) ?hr ?_;
   (case hr => first | (go_simp; done) | (go_simp; rfl));
   intro gy QT n_;
   simp only [Act.put, zA, zZ, zS];
   clear H c_q z_q;
   have H := n_;
   clear n_;
   have c_y := H.out.cell (g := gy) aH;
   have z_y := H.out.frozen (g := gy) aH;
   have c_q := H.out.cell (g := gq) mem3)
 |((with_reducible refine aK (t := 33) (p := 12) rfl ?_);
   refine aV (rs1 := [box gy [.slice A2 Q2.L.l.length c2, .bool Q2.L.dn, .int .i64 Q2.L.fu, .int .i64 Q2.L.fa, .int .i64 Q2.L.size, .int .u64 Q2.L.fr, .int .u64 Q2.L.nx, .bool false, .slice B2 Q2.es.length d2, .int .i64 Q2.most] 33, row k67 67 (.slice A2 (Q2.L.l).length c2) Q2.L.l, row k41 41 (.slice B2 (Q2.es).length d2) Q2.es, box gq [.slice A Q.L.l.length c, .bool Q.L.dn, .int .i64 Q.L.fu, .int .i64 Q.L.fa, .int .i64 Q.L.size, .int .u64 Q.L.fr, .int .u64 Q.L.nx, .bool Q.L.br, .slice B Q.es.length d, .int .i64 Q.most] 33, row k67 67 (.slice A (Q.L.l).length c) Q.L.l, row k41 41 (.slice B (Q.es).length d) Q.es, row Kd.string 9 (.slice Ao (want).length co) want]) rfl (t := 33) (p := 12) rfl rfl ?hr (H1 := (Sep.set0 (Sep.set0 (Sep.set0 (Sep.set0 (Sep.set0 (Sep.set0 (Sep.set0 (Sep.set0 (Sep.set0 (Sep.set0 H.out 0 (.slice A2 Q2.L.l.length c2) rfl) 1 (.bool Q2.L.dn) rfl) 2 (.int .i64 Q2.L.fu) rfl) 3 (.int .i64 Q2.L.fa) rfl) 4 (.int .i64 Q2.L.size) rfl) 5 (.int .u64 Q2.L.fr) rfl) 6 (.int .u64 Q2.L.nx) rfl) 7 (.bool false) rfl) 8 (.slice B2 Q2.es.length d2) rfl) 9 (.int .i64 Q2.most) rfl)) ?_;
   (case hr => first | (go_simp; done) | (go_simp; rfl));
   intro XB n_;
   clear H c_y z_y c_q;
   have H := n_;
   clear n_;
   have c_y := H.out.cell (g := gy) aH;
   have z_y := H.out.frozen (g := gy) aH;
   have c_q := H.out.cell (g := gq) mem3)
 |fail)
       try rw [hw3]
       exact ⟨⟨i + 1, Q, want, A, c, B, d, Ao, co, rfl, rfl, by omega, HF, HWL, ⟨(Sep.dW (Sep.drop1 (Sep.drop2 H.out)))⟩⟩, by simp [intOf] <;> omega⟩
     ·
      clear h5
      go_wp2_with (first
 |((with_reducible refine aN (N := 12) rfl ?_);
   refine aX rfl H (cs := [.slice none 0 0, .bool false, .int .i64 0, .int .i64 0, .int .i64 0, .int .u64 0, .int .u64 0, .bool false, .slice none 0 0, .int .i64 0]) (t := 33) ?hr ?_;
   (case hr => first | (go_simp; done) | (go_simp; rfl));
   intro gy TP n_;
   simp only [Act.put, zA, zZ, zS];
   clear H c_q z_q;
   have H := n_;
   clear n_;
   have c_y := H.out.cell (g := gy) aH;
   have z_y := H.out.frozen (g := gy) aH;
   have c_q := H.out.cell (g := gq) mem3)
 |((with_reducible refine aK (t := 33) (p := 12) rfl ?_);
   refine aV (rs1 := [box gy [.slice A2 Q2.L.l.length c2, .bool Q2.L.dn, .int .i64 Q2.L.fu, .int .i64 Q2.L.fa, .int .i64 Q2.L.size, .int .u64 Q2.L.fr, .int .u64 Q2.L.nx, .bool true, .slice B2 Q2.es.length d2, .int .i64 Q2.most] 33, row k67 67 (.slice A2 (Q2.L.l).length c2) Q2.L.l, row k41 41 (.slice B2 (Q2.es).length d2) Q2.es, box gq [.slice A Q.L.l.length c, .bool Q.L.dn, .int .i64 Q.L.fu, .int .i64 Q.L.fa, .int .i64 Q.L.size, .int .u64 Q.L.fr, .int .u64 Q.L.nx, .bool Q.L.br, .slice B Q.es.length d, .int .i64 Q.most] 33, row k67 67 (.slice A (Q.L.l).length c) Q.L.l, row k41 41 (.slice B (Q.es).length d) Q.es, row Kd.string 9 (.slice Ao (want).length co) want]) rfl (t := 33) (p := 12) rfl rfl ?hr (H1 := (Sep.set0 (Sep.set0 (Sep.set0 (Sep.set0 (Sep.set0 (Sep.set0 (Sep.set0 (Sep.set0 (Sep.set0 (Sep.set0 H.out 0 (.slice A2 Q2.L.l.length c2) rfl) 1 (.bool Q2.L.dn) rfl) 2 (.int .i64 Q2.L.fu) rfl) 3 (.int .i64 Q2.L.fa) rfl) 4 (.int .i64 Q2.L.size) rfl) 5 (.int .u64 Q2.L.fr) rfl) 6 (.int .u64 Q2.L.nx) rfl) 7 (.bool true) rfl) 8 (.slice B2 Q2.es.length d2) rfl) 9 (.int .i64 Q2.most) rfl)) ?_;
   (case hr => first | (go_simp; done) | (go_simp; rfl));
   intro YZ n_;
   clear H c_y z_y c_q;
   have H := n_;
   clear n_;
   have c_y := H.out.cell (g := gy) aH;
   have z_y := H.out.frozen (g := gy) aH;
   have c_q := H.out.cell (g := gq) mem3)
 |fail)
      try rw [hw3]
      exact ⟨⟨i + 1, Q, want, A, c, B, d, Ao, co, rfl, rfl, by omega, HF, HWL, ⟨(Sep.dW (Sep.drop1 (Sep.drop2 H.out)))⟩⟩, by simp [intOf] <;> omega⟩
   ·
    have hie : i = data.length := by omega
    subst hie
    have hnl : ¬ (data.length : Int) < (data.length : Int) := by omega
    have hwm : ¬ most < (want.length : Int) := by have := HWL.out; omega
    have qkD : ¬ (want.length : Int) > most := hwm
    go_wp2_with fail
    go_loopw [6, 16, 17, 18, 19, 20, 21, 22, 23, 80] (fun v6 v16 v17 v18 v19 v20 v21 v22 v23 v80 wr => ∃ (j : Nat) (Q3 : Qu) (m : Nat) (A3 : Option Addr) (c3 : Nat) (B3 : Option Addr) (d3 : Nat), v80 = .int .i64 (j : Int) ∧ j ≤ want.length ∧ aA (rM most Q3 (want.drop j) m) ∧ aA (m + (want.drop j).length ≤ 4096) ∧ aA (Sep w wr [box gq [.slice A3 Q3.L.l.length c3, .bool Q3.L.dn, .int .i64 Q3.L.fu, .int .i64 Q3.L.fa, .int .i64 Q3.L.size, .int .u64 Q3.L.fr, .int .u64 Q3.L.nx, .bool Q3.L.br, .slice B3 Q3.es.length d3, .int .i64 Q3.most] 33, row k67 67 (.slice A3 (Q3.L.l).length c3) Q3.L.l, row k41 41 (.slice B3 (Q3.es).length d3) Q3.es, row Kd.string 9 (.slice Ao (want).length co) want])) (fun _ _ _ _ _ _ _ _ _ v80 _ => want.length - (intOf v80).toNat)
    case atStart => exact ⟨0, Q, _, A, c, B, d, rfl, Nat.zero_le _, HF, ⟨by have h1 := HWL.out; have h2 := HM0.out; rw [List.drop_zero]; omega⟩, H⟩
    case round =>
     clear H HOK c_q z_q
     obtain ⟨j, Q3, m, A3, c3, B3, d3, rfl, hj, HF3, HM3, H⟩ := hrel
     have c_q := H.out.cell (g := gq) aH
     have z_q := H.out.frozen (g := gq) aH
     have HOK := aA.mk HF3.out.okr
     by_cases hjl : j < want.length
     ·
      obtain ⟨ad2, e1, hk⟩ := Kd.Q7 (H.out.reads mem3).2.2 (j : Int) (by omega) (by omega)
      subst e1
      simp only [Int.toNat_natCast] at hk
      obtain ⟨s, hs⟩ : ∃ s, s = X9 ByteArray.empty want (j : Int) := ⟨_, rfl⟩
      rw [← hs] at hk
      have hdr : want.drop j = s :: want.drop (j + 1) := by
       rw [List.drop_eq_getElem_cons hjl]
       congr 1
       rw [hs]
       simp [X9, List.getD, List.getElem?_eq_getElem hjl]
      clear hs
      have hj2 : (j : Int) < (want.length : Int) := by omega
      have hj0 : (0 : Int) ≤ (j : Int) := by omega
      have hw3 : wrap64 ((j : Int) + 1) = ((j + 1 : Nat) : Int) := by
       have h1 := HWL.out
       have h2 := HM0.out
       unfold wrap64
       omega
      have hm3 := HM3.out
      rw [hdr, List.length_cons] at hm3
      have HF4 := HF3.out
      rw [hdr] at HF4
      obtain ⟨x, Ql, Qd, h1, h2, h3, h4, h5, h6, h7⟩ := HF4.step (by omega)
      have HLE := aA.mk (sF A3 c3 B3 d3 Q3)
      rw [h1, h2] at HLE
      have HAK := aA.mk (fun A c B d w hr hc hre hce hG => NR A c B d Ql x.f0 w hr hc hre hce hG h3.1 h3.2.1 h3.2.2 h4 h5)
      have HAG := aA.mk (fun A c B d w hr hc hre hce hG => NR A c B d Qd x.f0 w hr hc hre hce hG h6.1 h6.2.1 h6.2.2 h4 h5)
      dsimp only at HLE
      clear h1 h2 h3 h4 h5 h6 HF4 hdr
      go_wp2_with fail
      refine ((HLE.out _ (H.out.reads mem1).2.2 (H.out.reads mem1).2.1 (H.out.reads mem2).2.2 (H.out.reads mem2).2.1 (HG.out.below H.out.below) HOK.out.1 HOK.out.2.1 HOK.out.2.2).mono ?_)
      rintro e Y0 ⟨A4, c4, B4, d4, rfl, HJ⟩
      have n_ : aA (Sep w Y0 [row k67 67 (.slice A4 (Ql.L.l).length c4) Ql.L.l, row k41 41 (.slice B4 (Ql.es).length d4) Ql.es, box gq [.slice A3 Q3.L.l.length c3, .bool Q3.L.dn, .int .i64 Q3.L.fu, .int .i64 Q3.L.fa, .int .i64 Q3.L.size, .int .u64 Q3.L.fr, .int .u64 Q3.L.nx, .bool Q3.L.br, .slice B3 Q3.es.length d3, .int .i64 Q3.most] 33, row k67 67 (.slice A3 (Q3.L.l).length c3) Q3.L.l, row k41 41 (.slice B3 (Q3.es).length d3) Q3.es, row Kd.string 9 (.slice (some ad2) (want).length co) want]) := ⟨dI H.out HJ.out⟩
      clear H c_q z_q
      have H := n_
      clear n_
      have c_q := H.out.cell (g := gq) mem2
      have z_q := H.out.frozen (g := gq) mem2
      clear HJ
      simp only [qc, lgc, List.cons_append, List.nil_append]
      clear hk HLE
      go_wp2_with (first
 |((with_reducible refine aN (N := 17) rfl ?_);
   refine aX rfl H (cs := [.slice none 0 0, .bool false, .int .i64 0, .int .i64 0, .int .i64 0, .int .u64 0, .int .u64 0, .bool false, .slice none 0 0, .int .i64 0]) (t := 33) ?hr ?_;
   (case hr => first | (go_simp; done) | (go_simp; rfl));
   intro gy TQ n_;
   simp only [Act.put, zA, zZ, zS];
   clear H c_q z_q;
   have H := n_;
   clear n_;
   have c_y := H.out.cell (g := gy) aH;
   have z_y := H.out.frozen (g := gy) aH;
   have c_q := H.out.cell (g := gq) mem3)
 |((with_reducible refine aN (N := 18) rfl ?_);
   refine aX rfl H (cs := [.int .u64 0, .string ⟨#[]⟩, .bool false]) (t := 41) ?hr ?_;
   (case hr => first | (go_simp; done) | (go_simp; rfl));
   intro gx qdI n_;
   simp only [Act.put, zA, zZ, zS];
   clear H c_y z_y c_q;
   have H := n_;
   clear n_;
   have c_x := H.out.cell (g := gx) aH;
   have z_x := H.out.frozen (g := gx) aH;
   have c_y := H.out.cell (g := gy) mem1;
   have z_y := H.out.frozen (g := gy) mem1;
   have c_q := H.out.cell (g := gq) bM)
 |((with_reducible refine aK (t := 33) (p := 17) rfl ?_);
   refine aV (rs1 := [box gx [.int .u64 0, .string ⟨#[]⟩, .bool false] 41, box gy [.slice A4 Ql.L.l.length c4, .bool Ql.L.dn, .int .i64 Ql.L.fu, .int .i64 Ql.L.fa, .int .i64 Ql.L.size, .int .u64 Ql.L.fr, .int .u64 Ql.L.nx, .bool Ql.L.br, .slice B4 Ql.es.length d4, .int .i64 Ql.most] 33, row k67 67 (.slice A4 (Ql.L.l).length c4) Ql.L.l, row k41 41 (.slice B4 (Ql.es).length d4) Ql.es, box gq [.slice A3 Q3.L.l.length c3, .bool Q3.L.dn, .int .i64 Q3.L.fu, .int .i64 Q3.L.fa, .int .i64 Q3.L.size, .int .u64 Q3.L.fr, .int .u64 Q3.L.nx, .bool Q3.L.br, .slice B3 Q3.es.length d3, .int .i64 Q3.most] 33, row k67 67 (.slice A3 (Q3.L.l).length c3) Q3.L.l, row k41 41 (.slice B3 (Q3.es).length d3) Q3.es, row Kd.string 9 (.slice (some ad2) (want).length co) want]) rfl (t := 33) (p := 17) rfl rfl ?hr (H1 := (Sep.set1 (Sep.set1 (Sep.set1 (Sep.set1 (Sep.set1 (Sep.set1 (Sep.set1 (Sep.set1 (Sep.set1 (Sep.set1 H.out 0 (.slice A4 Ql.L.l.length c4) rfl) 1 (.bool Ql.L.dn) rfl) 2 (.int .i64 Ql.L.fu) rfl) 3 (.int .i64 Ql.L.fa) rfl) 4 (.int .i64 Ql.L.size) rfl) 5 (.int .u64 Ql.L.fr) rfl) 6 (.int .u64 Ql.L.nx) rfl) 7 (.bool Ql.L.br) rfl) 8 (.slice B4 Ql.es.length d4) rfl) 9 (.int .i64 Ql.most) rfl)) ?_;
   (case hr => first | (go_simp; done) | (go_simp; rfl));
   intro qeI n_;
   clear H c_x z_x c_y z_y c_q;
   have H := n_;
   clear n_;
   have c_x := H.out.cell (g := gx) aH;
   have z_x := H.out.frozen (g := gx) aH;
   have c_y := H.out.cell (g := gy) mem1;
   have z_y := H.out.frozen (g := gy) mem1;
   have c_q := H.out.cell (g := gq) bM)
 |((with_reducible refine aK (t := 41) (p := 18) rfl ?_);
   refine aV (rs1 := [box gx [.int .u64 x.f0, .string s, .bool true] 41, box gy [.slice A4 Ql.L.l.length c4, .bool Ql.L.dn, .int .i64 Ql.L.fu, .int .i64 Ql.L.fa, .int .i64 Ql.L.size, .int .u64 Ql.L.fr, .int .u64 Ql.L.nx, .bool Ql.L.br, .slice B4 Ql.es.length d4, .int .i64 Ql.most] 33, row k67 67 (.slice A4 (Ql.L.l).length c4) Ql.L.l, row k41 41 (.slice B4 (Ql.es).length d4) Ql.es, box gq [.slice A3 Q3.L.l.length c3, .bool Q3.L.dn, .int .i64 Q3.L.fu, .int .i64 Q3.L.fa, .int .i64 Q3.L.size, .int .u64 Q3.L.fr, .int .u64 Q3.L.nx, .bool Q3.L.br, .slice B3 Q3.es.length d3, .int .i64 Q3.most] 33, row k67 67 (.slice A3 (Q3.L.l).length c3) Q3.L.l, row k41 41 (.slice B3 (Q3.es).length d3) Q3.es, row Kd.string 9 (.slice (some ad2) (want).length co) want]) rfl (t := 41) (p := 18) rfl rfl ?hr (H1 := (Sep.set0 (Sep.set0 (Sep.set0 H.out 0 (.int .u64 x.f0) rfl) 1 (.string s) rfl) 2 (.bool true) rfl)) ?_;
   (case hr => first | (go_simp; done) | (go_simp; rfl));
   intro qeJ n_;
   clear H c_x z_x c_y z_y c_q;
   have H := n_;
   clear n_;
   have c_x := H.out.cell (g := gx) aH;
   have z_x := H.out.frozen (g := gx) aH;
   have c_y := H.out.cell (g := gy) mem1;
   have z_y := H.out.frozen (g := gy) mem1;
   have c_q := H.out.cell (g := gq) bM)
 |fail)
      rcases h7 with ⟨h8, h9, h10⟩ | ⟨h8, h9, h10⟩
      ·
       rw [h8] at HAK
       rw [h9] at HAG
       dsimp only at HAK HAG
       clear h8 h9
       refine ((HAK.out _ _ _ _ _ (H.out.reads mem2).2.2 (H.out.reads mem2).2.1 (H.out.reads mem3).2.2 (H.out.reads mem3).2.1 (HG.out.below H.out.below)).mono ?_)
       rintro e TR ⟨A5, c5, B5, d5, rfl, HJ⟩
       have n_ : aA (Sep w TR [row k67 67 (.slice A5 (Qd.L.l).length c5) Qd.L.l, row k41 41 (.slice B5 (Qd.es).length d5) Qd.es, box gx [.int .u64 x.f0, .string s, .bool true] 41, box gy [.slice A4 Ql.L.l.length c4, .bool Ql.L.dn, .int .i64 Ql.L.fu, .int .i64 Ql.L.fa, .int .i64 Ql.L.size, .int .u64 Ql.L.fr, .int .u64 Ql.L.nx, .bool Ql.L.br, .slice B4 Ql.es.length d4, .int .i64 Ql.most] 33, row k67 67 (.slice A4 (Ql.L.l).length c4) Ql.L.l, row k41 41 (.slice B4 (Ql.es).length d4) Ql.es, box gq [.slice A3 Q3.L.l.length c3, .bool Q3.L.dn, .int .i64 Q3.L.fu, .int .i64 Q3.L.fa, .int .i64 Q3.L.size, .int .u64 Q3.L.fr, .int .u64 Q3.L.nx, .bool Q3.L.br, .slice B3 Q3.es.length d3, .int .i64 Q3.most] 33, row k67 67 (.slice A3 (Q3.L.l).length c3) Q3.L.l, row k41 41 (.slice B3 (Q3.es).length d3) Q3.es, row Kd.string 9 (.slice (some ad2) (want).length co) want]) := ⟨dI H.out HJ.out⟩
       clear H c_x z_x c_y z_y c_q
       have H := n_
       clear n_
       have c_x := H.out.cell (g := gx) mem2
       have z_x := H.out.frozen (g := gx) mem2
       have c_y := H.out.cell (g := gy) mem3
       have z_y := H.out.frozen (g := gy) mem3
       have c_q := H.out.cell (g := gq) jM
       clear HJ
       simp only [qc, lgc, List.cons_append, List.nil_append]
       have n_ : aA (Sep w TR [row k67 67 (.slice A5 (Qd.L.l).length c5) Qd.L.l, row k41 41 (.slice B5 (Qd.es).length d5) Qd.es, box gx [.int .u64 x.f0, .string s, .bool true] 41, box gy [.slice A4 Ql.L.l.length c4, .bool Ql.L.dn, .int .i64 Ql.L.fu, .int .i64 Ql.L.fa, .int .i64 Ql.L.size, .int .u64 Ql.L.fr, .int .u64 Ql.L.nx, .bool Ql.L.br, .slice B4 Ql.es.length d4, .int .i64 Ql.most] 33, row k67 67 (.slice A4 (Ql.L.l).length c4) Ql.L.l, row k41 41 (.slice B4 (Ql.es).length d4) Ql.es, box gq [.slice A3 Q3.L.l.length c3, .bool Q3.L.dn, .int .i64 Q3.L.fu, .int .i64 Q3.L.fa, .int .i64 Q3.L.size, .int .u64 Q3.L.fr, .int .u64 Q3.L.nx, .bool Q3.L.br, .slice B3 Q3.es.length d3, .int .i64 Q3.most] 33, row k41 41 (.slice B3 (Q3.es).length d3) Q3.es, row Kd.string 9 (.slice (some ad2) (want).length co) want]) := ⟨Sep.F8 H.out⟩
       clear H c_x z_x c_y z_y c_q
       have H := n_
       clear n_
       have c_x := H.out.cell (g := gx) mem2
       have z_x := H.out.frozen (g := gx) mem2
       have c_y := H.out.cell (g := gy) mem3
       have z_y := H.out.frozen (g := gy) mem3
       have c_q := H.out.cell (g := gq) jM
       have n_ : aA (Sep w TR [row k67 67 (.slice A5 (Qd.L.l).length c5) Qd.L.l, row k41 41 (.slice B5 (Qd.es).length d5) Qd.es, box gx [.int .u64 x.f0, .string s, .bool true] 41, box gy [.slice A4 Ql.L.l.length c4, .bool Ql.L.dn, .int .i64 Ql.L.fu, .int .i64 Ql.L.fa, .int .i64 Ql.L.size, .int .u64 Ql.L.fr, .int .u64 Ql.L.nx, .bool Ql.L.br, .slice B4 Ql.es.length d4, .int .i64 Ql.most] 33, row k67 67 (.slice A4 (Ql.L.l).length c4) Ql.L.l, row k41 41 (.slice B4 (Ql.es).length d4) Ql.es, box gq [.slice A3 Q3.L.l.length c3, .bool Q3.L.dn, .int .i64 Q3.L.fu, .int .i64 Q3.L.fa, .int .i64 Q3.L.size, .int .u64 Q3.L.fr, .int .u64 Q3.L.nx, .bool Q3.L.br, .slice B3 Q3.es.length d3, .int .i64 Q3.most] 33, row Kd.string 9 (.slice (some ad2) (want).length co) want]) := ⟨Sep.F8 H.out⟩
       clear H c_x z_x c_y z_y c_q
       have H := n_
       clear n_
       have c_x := H.out.cell (g := gx) mem2
       have z_x := H.out.frozen (g := gx) mem2
       have c_y := H.out.cell (g := gy) mem3
       have z_y := H.out.frozen (g := gy) mem3
       have c_q := H.out.cell (g := gq) jM
       have n_ : aA (Sep w TR [row k67 67 (.slice A5 (Qd.L.l).length c5) Qd.L.l, row k41 41 (.slice B5 (Qd.es).length d5) Qd.es, box gx [.int .u64 x.f0, .string s, .bool true] 41, box gy [.slice A4 Ql.L.l.length c4, .bool Ql.L.dn, .int .i64 Ql.L.fu, .int .i64 Ql.L.fa, .int .i64 Ql.L.size, .int .u64 Ql.L.fr, .int .u64 Ql.L.nx, .bool Ql.L.br, .slice B4 Ql.es.length d4, .int .i64 Ql.most] 33, row k41 41 (.slice B4 (Ql.es).length d4) Ql.es, box gq [.slice A3 Q3.L.l.length c3, .bool Q3.L.dn, .int .i64 Q3.L.fu, .int .i64 Q3.L.fa, .int .i64 Q3.L.size, .int .u64 Q3.L.fr, .int .u64 Q3.L.nx, .bool Q3.L.br, .slice B3 Q3.es.length d3, .int .i64 Q3.most] 33, row Kd.string 9 (.slice (some ad2) (want).length co) want]) := ⟨Sep.lH H.out⟩
       clear H c_x z_x c_y z_y c_q
       have H := n_
       clear n_
       have c_x := H.out.cell (g := gx) mem2
       have z_x := H.out.frozen (g := gx) mem2
       have c_y := H.out.cell (g := gy) mem3
       have z_y := H.out.frozen (g := gy) mem3
       have c_q := H.out.cell (g := gq) dM
       have n_ : aA (Sep w TR [row k67 67 (.slice A5 (Qd.L.l).length c5) Qd.L.l, row k41 41 (.slice B5 (Qd.es).length d5) Qd.es, box gx [.int .u64 x.f0, .string s, .bool true] 41, box gy [.slice A4 Ql.L.l.length c4, .bool Ql.L.dn, .int .i64 Ql.L.fu, .int .i64 Ql.L.fa, .int .i64 Ql.L.size, .int .u64 Ql.L.fr, .int .u64 Ql.L.nx, .bool Ql.L.br, .slice B4 Ql.es.length d4, .int .i64 Ql.most] 33, box gq [.slice A3 Q3.L.l.length c3, .bool Q3.L.dn, .int .i64 Q3.L.fu, .int .i64 Q3.L.fa, .int .i64 Q3.L.size, .int .u64 Q3.L.fr, .int .u64 Q3.L.nx, .bool Q3.L.br, .slice B3 Q3.es.length d3, .int .i64 Q3.most] 33, row Kd.string 9 (.slice (some ad2) (want).length co) want]) := ⟨Sep.lH H.out⟩
       clear H c_x z_x c_y z_y c_q
       have H := n_
       clear n_
       have c_x := H.out.cell (g := gx) mem2
       have z_x := H.out.frozen (g := gx) mem2
       have c_y := H.out.cell (g := gy) mem3
       have z_y := H.out.frozen (g := gy) mem3
       have c_q := H.out.cell (g := gq) bM
       go_wp2_with (first
 |((with_reducible refine aN (N := 20) rfl ?_);
   refine aX rfl H (cs := [.slice none 0 0, .bool false, .int .i64 0, .int .i64 0, .int .i64 0, .int .u64 0, .int .u64 0, .bool false, .slice none 0 0, .int .i64 0]) (t := 33) ?hr ?_;
   (case hr => first | (go_simp; done) | (go_simp; rfl));
   intro gu Y1 n_;
   simp only [Act.put, zA, zZ, zS];
   clear H c_x z_x c_y z_y c_q;
   have H := n_;
   clear n_;
   have c_u := H.out.cell (g := gu) aH;
   have z_u := H.out.frozen (g := gu) aH;
   have c_x := H.out.cell (g := gx) mem3;
   have c_y := H.out.cell (g := gy) bM;
   have c_q := H.out.cell (g := gq) dM)
 |((with_reducible refine aK (t := 33) (p := 20) rfl ?_);
   refine aV (rs1 := [box gu [.slice A5 Qd.L.l.length c5, .bool Qd.L.dn, .int .i64 Qd.L.fu, .int .i64 Qd.L.fa, .int .i64 Qd.L.size, .int .u64 Qd.L.fr, .int .u64 Qd.L.nx, .bool Qd.L.br, .slice B5 Qd.es.length d5, .int .i64 Qd.most] 33, row k67 67 (.slice A5 (Qd.L.l).length c5) Qd.L.l, row k41 41 (.slice B5 (Qd.es).length d5) Qd.es, box gx [.int .u64 x.f0, .string s, .bool true] 41, box gy [.slice A4 Ql.L.l.length c4, .bool Ql.L.dn, .int .i64 Ql.L.fu, .int .i64 Ql.L.fa, .int .i64 Ql.L.size, .int .u64 Ql.L.fr, .int .u64 Ql.L.nx, .bool Ql.L.br, .slice B4 Ql.es.length d4, .int .i64 Ql.most] 33, box gq [.slice A3 Q3.L.l.length c3, .bool Q3.L.dn, .int .i64 Q3.L.fu, .int .i64 Q3.L.fa, .int .i64 Q3.L.size, .int .u64 Q3.L.fr, .int .u64 Q3.L.nx, .bool Q3.L.br, .slice B3 Q3.es.length d3, .int .i64 Q3.most] 33, row Kd.string 9 (.slice (some ad2) (want).length co) want]) rfl (t := 33) (p := 20) rfl rfl ?hr (H1 := (Sep.set0 (Sep.set0 (Sep.set0 (Sep.set0 (Sep.set0 (Sep.set0 (Sep.set0 (Sep.set0 (Sep.set0 (Sep.set0 H.out 0 (.slice A5 Qd.L.l.length c5) rfl) 1 (.bool Qd.L.dn) rfl) 2 (.int .i64 Qd.L.fu) rfl) 3 (.int .i64 Qd.L.fa) rfl) 4 (.int .i64 Qd.L.size) rfl) 5 (.int .u64 Qd.L.fr) rfl) 6 (.int .u64 Qd.L.nx) rfl) 7 (.bool Qd.L.br) rfl) 8 (.slice B5 Qd.es.length d5) rfl) 9 (.int .i64 Qd.most) rfl)) ?_;
   (case hr => first | (go_simp; done) | (go_simp; rfl));
   intro qdJ n_;
   clear H c_u z_u c_x c_y c_q;
   have H := n_;
   clear n_;
   have c_u := H.out.cell (g := gu) aH;
   have z_u := H.out.frozen (g := gu) aH;
   have c_x := H.out.cell (g := gx) mem3;
   have c_y := H.out.cell (g := gy) bM;
   have c_q := H.out.cell (g := gq) dM)
 |fail)
       refine ((HAG.out _ _ _ _ _ (H.out.reads mem1).2.2 (H.out.reads mem1).2.1 (H.out.reads mem2).2.2 (H.out.reads mem2).2.1 (HG.out.below H.out.below)).mono ?_)
       rintro e qeK ⟨A6, c6, B6, d6, rfl, HJ⟩
       have n_ : aA (Sep w qeK [row k67 67 (.slice A6 (Qd.L.l).length c6) Qd.L.l, row k41 41 (.slice B6 (Qd.es).length d6) Qd.es, box gu [.slice A5 Qd.L.l.length c5, .bool Qd.L.dn, .int .i64 Qd.L.fu, .int .i64 Qd.L.fa, .int .i64 Qd.L.size, .int .u64 Qd.L.fr, .int .u64 Qd.L.nx, .bool Qd.L.br, .slice B5 Qd.es.length d5, .int .i64 Qd.most] 33, row k67 67 (.slice A5 (Qd.L.l).length c5) Qd.L.l, row k41 41 (.slice B5 (Qd.es).length d5) Qd.es, box gx [.int .u64 x.f0, .string s, .bool true] 41, box gy [.slice A4 Ql.L.l.length c4, .bool Ql.L.dn, .int .i64 Ql.L.fu, .int .i64 Ql.L.fa, .int .i64 Ql.L.size, .int .u64 Ql.L.fr, .int .u64 Ql.L.nx, .bool Ql.L.br, .slice B4 Ql.es.length d4, .int .i64 Ql.most] 33, box gq [.slice A3 Q3.L.l.length c3, .bool Q3.L.dn, .int .i64 Q3.L.fu, .int .i64 Q3.L.fa, .int .i64 Q3.L.size, .int .u64 Q3.L.fr, .int .u64 Q3.L.nx, .bool Q3.L.br, .slice B3 Q3.es.length d3, .int .i64 Q3.most] 33, row Kd.string 9 (.slice (some ad2) (want).length co) want]) := ⟨dI H.out HJ.out⟩
       clear H c_u z_u c_x c_y c_q
       have H := n_
       clear n_
       have c_u := H.out.cell (g := gu) mem2
       have z_u := H.out.frozen (g := gu) mem2
       have c_x := H.out.cell (g := gx) dM
       have c_y := H.out.cell (g := gy) jM
       have c_q := H.out.cell (g := gq) jE
       clear HJ
       simp only [qc, lgc, List.cons_append, List.nil_append]
       clear c_u z_u c_x c_y c_q
       have c_u := H.out.cell (g := gu) mem2
       have c_x := H.out.cell (g := gx) dM
       have c_y := H.out.cell (g := gy) jM
       have c_q := H.out.cell (g := gq) jE
       have z_q := H.out.frozen (g := gq) jE
       go_wp2_with (first
 |((with_reducible refine aN (N := 22) rfl ?_);
   refine aX rfl H (cs := [.slice none 0 0, .bool false, .int .i64 0, .int .i64 0, .int .i64 0, .int .u64 0, .int .u64 0, .bool false, .slice none 0 0, .int .i64 0]) (t := 33) ?hr ?_;
   (case hr => first | (go_simp; done) | (go_simp; rfl));
   intro gv qeL n_;
   simp only [Act.put, zA, zZ, zS];
   clear H c_u c_x c_y c_q z_q;
   have H := n_;
   clear n_;
   have c_v := H.out.cell (g := gv) aH;
   have z_v := H.out.frozen (g := gv) aH;
   have c_u := H.out.cell (g := gu) mem3;
   have c_x := H.out.cell (g := gx) jM;
   have c_y := H.out.cell (g := gy) jE;
   have c_q := H.out.cell (g := gq) oN;
   have z_q := H.out.frozen (g := gq) oN)
 |((with_reducible refine aK (t := 33) (p := 22) rfl ?_);
   refine aV (rs1 := [box gv [.slice A6 Qd.L.l.length c6, .bool Qd.L.dn, .int .i64 Qd.L.fu, .int .i64 Qd.L.fa, .int .i64 Qd.L.size, .int .u64 Qd.L.fr, .int .u64 Qd.L.nx, .bool Qd.L.br, .slice B6 Qd.es.length d6, .int .i64 Qd.most] 33, row k67 67 (.slice A6 (Qd.L.l).length c6) Qd.L.l, row k41 41 (.slice B6 (Qd.es).length d6) Qd.es, box gu [.slice A5 Qd.L.l.length c5, .bool Qd.L.dn, .int .i64 Qd.L.fu, .int .i64 Qd.L.fa, .int .i64 Qd.L.size, .int .u64 Qd.L.fr, .int .u64 Qd.L.nx, .bool Qd.L.br, .slice B5 Qd.es.length d5, .int .i64 Qd.most] 33, row k67 67 (.slice A5 (Qd.L.l).length c5) Qd.L.l, row k41 41 (.slice B5 (Qd.es).length d5) Qd.es, box gx [.int .u64 x.f0, .string s, .bool true] 41, box gy [.slice A4 Ql.L.l.length c4, .bool Ql.L.dn, .int .i64 Ql.L.fu, .int .i64 Ql.L.fa, .int .i64 Ql.L.size, .int .u64 Ql.L.fr, .int .u64 Ql.L.nx, .bool Ql.L.br, .slice B4 Ql.es.length d4, .int .i64 Ql.most] 33, box gq [.slice A3 Q3.L.l.length c3, .bool Q3.L.dn, .int .i64 Q3.L.fu, .int .i64 Q3.L.fa, .int .i64 Q3.L.size, .int .u64 Q3.L.fr, .int .u64 Q3.L.nx, .bool Q3.L.br, .slice B3 Q3.es.length d3, .int .i64 Q3.most] 33, row Kd.string 9 (.slice (some ad2) (want).length co) want]) rfl (t := 33) (p := 22) rfl rfl ?hr (H1 := (Sep.set0 (Sep.set0 (Sep.set0 (Sep.set0 (Sep.set0 (Sep.set0 (Sep.set0 (Sep.set0 (Sep.set0 (Sep.set0 H.out 0 (.slice A6 Qd.L.l.length c6) rfl) 1 (.bool Qd.L.dn) rfl) 2 (.int .i64 Qd.L.fu) rfl) 3 (.int .i64 Qd.L.fa) rfl) 4 (.int .i64 Qd.L.size) rfl) 5 (.int .u64 Qd.L.fr) rfl) 6 (.int .u64 Qd.L.nx) rfl) 7 (.bool Qd.L.br) rfl) 8 (.slice B6 Qd.es.length d6) rfl) 9 (.int .i64 Qd.most) rfl)) ?_;
   (case hr => first | (go_simp; done) | (go_simp; rfl));
   intro qf8 n_;
   clear H c_v z_v c_u c_x c_y c_q z_q;
   have H := n_;
   clear n_;
   have c_v := H.out.cell (g := gv) aH;
   have z_v := H.out.frozen (g := gv) aH;
   have c_u := H.out.cell (g := gu) mem3;
   have c_x := H.out.cell (g := gx) jM;
   have c_y := H.out.cell (g := gy) jE;
   have c_q := H.out.cell (g := gq) oN;
   have z_q := H.out.frozen (g := gq) oN)
 |((with_reducible refine aK (t := 33) (p := 7) rfl ?_);
   refine aV (rs1 := [box gv [.slice A6 Qd.L.l.length c6, .bool Qd.L.dn, .int .i64 Qd.L.fu, .int .i64 Qd.L.fa, .int .i64 Qd.L.size, .int .u64 Qd.L.fr, .int .u64 Qd.L.nx, .bool Qd.L.br, .slice B6 Qd.es.length d6, .int .i64 Qd.most] 33, row k67 67 (.slice A6 (Qd.L.l).length c6) Qd.L.l, row k41 41 (.slice B6 (Qd.es).length d6) Qd.es, box gu [.slice A5 Qd.L.l.length c5, .bool Qd.L.dn, .int .i64 Qd.L.fu, .int .i64 Qd.L.fa, .int .i64 Qd.L.size, .int .u64 Qd.L.fr, .int .u64 Qd.L.nx, .bool Qd.L.br, .slice B5 Qd.es.length d5, .int .i64 Qd.most] 33, row k67 67 (.slice A5 (Qd.L.l).length c5) Qd.L.l, row k41 41 (.slice B5 (Qd.es).length d5) Qd.es, box gx [.int .u64 x.f0, .string s, .bool true] 41, box gy [.slice A4 Ql.L.l.length c4, .bool Ql.L.dn, .int .i64 Ql.L.fu, .int .i64 Ql.L.fa, .int .i64 Ql.L.size, .int .u64 Ql.L.fr, .int .u64 Ql.L.nx, .bool Ql.L.br, .slice B4 Ql.es.length d4, .int .i64 Ql.most] 33, box gq [.slice A5 Qd.L.l.length c5, .bool Qd.L.dn, .int .i64 Qd.L.fu, .int .i64 Qd.L.fa, .int .i64 Qd.L.size, .int .u64 Qd.L.fr, .int .u64 Qd.L.nx, .bool Qd.L.br, .slice B5 Qd.es.length d5, .int .i64 Qd.most] 33, row Kd.string 9 (.slice (some ad2) (want).length co) want]) rfl (t := 33) (p := 7) rfl rfl ?hr (H1 := (Sep.QL (Sep.QL (Sep.QL (Sep.QL (Sep.QL (Sep.QL (Sep.QL (Sep.QL (Sep.QL (Sep.QL H.out 0 (.slice A5 Qd.L.l.length c5) rfl) 1 (.bool Qd.L.dn) rfl) 2 (.int .i64 Qd.L.fu) rfl) 3 (.int .i64 Qd.L.fa) rfl) 4 (.int .i64 Qd.L.size) rfl) 5 (.int .u64 Qd.L.fr) rfl) 6 (.int .u64 Qd.L.nx) rfl) 7 (.bool Qd.L.br) rfl) 8 (.slice B5 Qd.es.length d5) rfl) 9 (.int .i64 Qd.most) rfl)) ?_;
   (case hr => first | (go_simp; done) | (go_simp; rfl));
   intro qf9 n_;
   clear H c_v z_v c_u c_x c_y c_q z_q;
   have H := n_;
   clear n_;
   have c_v := H.out.cell (g := gv) aH;
   have z_v := H.out.frozen (g := gv) aH;
   have c_u := H.out.cell (g := gu) mem3;
   have c_x := H.out.cell (g := gx) jM;
   have c_y := H.out.cell (g := gy) jE;
   have c_q := H.out.cell (g := gq) oN;
   have z_q := H.out.frozen (g := gq) oN)
 |fail)
       try rw [hw3]
       exact ⟨⟨j + 1, Qd, m + 1, A5, c5, B5, d5, rfl, by omega, ⟨h10⟩, ⟨by omega⟩, ⟨(Sep.kF (Sep.gV (Sep.gV (Sep.kF (Sep.dW (Sep.drop1 (Sep.drop2 (Sep.iZ (Sep.VX (Sep.F8 H.out))))))))))⟩⟩, by simp [intOf] <;> omega⟩
      ·
       rw [h8] at HAK
       rw [h9] at HAG
       dsimp only at HAK HAG
       clear h8 h9
       refine ((HAK.out _ _ _ _ _ (H.out.reads mem2).2.2 (H.out.reads mem2).2.1 (H.out.reads mem3).2.2 (H.out.reads mem3).2.1 (HG.out.below H.out.below)).mono ?_)
       rintro e qck ⟨A5, c5, B5, d5, rfl, HJ⟩
       have n_ : aA (Sep w qck [row k67 67 (.slice A5 (Qd.L.l).length c5) Qd.L.l, row k41 41 (.slice B5 (Qd.es).length d5) Qd.es, box gx [.int .u64 x.f0, .string s, .bool true] 41, box gy [.slice A4 Ql.L.l.length c4, .bool Ql.L.dn, .int .i64 Ql.L.fu, .int .i64 Ql.L.fa, .int .i64 Ql.L.size, .int .u64 Ql.L.fr, .int .u64 Ql.L.nx, .bool Ql.L.br, .slice B4 Ql.es.length d4, .int .i64 Ql.most] 33, row k67 67 (.slice A4 (Ql.L.l).length c4) Ql.L.l, row k41 41 (.slice B4 (Ql.es).length d4) Ql.es, box gq [.slice A3 Q3.L.l.length c3, .bool Q3.L.dn, .int .i64 Q3.L.fu, .int .i64 Q3.L.fa, .int .i64 Q3.L.size, .int .u64 Q3.L.fr, .int .u64 Q3.L.nx, .bool Q3.L.br, .slice B3 Q3.es.length d3, .int .i64 Q3.most] 33, row k67 67 (.slice A3 (Q3.L.l).length c3) Q3.L.l, row k41 41 (.slice B3 (Q3.es).length d3) Q3.es, row Kd.string 9 (.slice (some ad2) (want).length co) want]) := ⟨dI H.out HJ.out⟩
       clear H c_x z_x c_y z_y c_q
       have H := n_
       clear n_
       have c_x := H.out.cell (g := gx) mem2
       have z_x := H.out.frozen (g := gx) mem2
       have c_y := H.out.cell (g := gy) mem3
       have z_y := H.out.frozen (g := gy) mem3
       have c_q := H.out.cell (g := gq) jM
       clear HJ
       simp only [qc, lgc, List.cons_append, List.nil_append]
       have n_ : aA (Sep w qck [row k67 67 (.slice A5 (Qd.L.l).length c5) Qd.L.l, row k41 41 (.slice B5 (Qd.es).length d5) Qd.es, box gx [.int .u64 x.f0, .string s, .bool true] 41, box gy [.slice A4 Ql.L.l.length c4, .bool Ql.L.dn, .int .i64 Ql.L.fu, .int .i64 Ql.L.fa, .int .i64 Ql.L.size, .int .u64 Ql.L.fr, .int .u64 Ql.L.nx, .bool Ql.L.br, .slice B4 Ql.es.length d4, .int .i64 Ql.most] 33, row k67 67 (.slice A4 (Ql.L.l).length c4) Ql.L.l, row k41 41 (.slice B4 (Ql.es).length d4) Ql.es, box gq [.slice A3 Q3.L.l.length c3, .bool Q3.L.dn, .int .i64 Q3.L.fu, .int .i64 Q3.L.fa, .int .i64 Q3.L.size, .int .u64 Q3.L.fr, .int .u64 Q3.L.nx, .bool Q3.L.br, .slice B3 Q3.es.length d3, .int .i64 Q3.most] 33, row k41 41 (.slice B3 (Q3.es).length d3) Q3.es, row Kd.string 9 (.slice (some ad2) (want).length co) want]) := ⟨Sep.F8 H.out⟩
       clear H c_x z_x c_y z_y c_q
       have H := n_
       clear n_
       have c_x := H.out.cell (g := gx) mem2
       have z_x := H.out.frozen (g := gx) mem2
       have c_y := H.out.cell (g := gy) mem3
       have z_y := H.out.frozen (g := gy) mem3
       have c_q := H.out.cell (g := gq) jM
       have n_ : aA (Sep w qck [row k67 67 (.slice A5 (Qd.L.l).length c5) Qd.L.l, row k41 41 (.slice B5 (Qd.es).length d5) Qd.es, box gx [.int .u64 x.f0, .string s, .bool true] 41, box gy [.slice A4 Ql.L.l.length c4, .bool Ql.L.dn, .int .i64 Ql.L.fu, .int .i64 Ql.L.fa, .int .i64 Ql.L.size, .int .u64 Ql.L.fr, .int .u64 Ql.L.nx, .bool Ql.L.br, .slice B4 Ql.es.length d4, .int .i64 Ql.most] 33, row k67 67 (.slice A4 (Ql.L.l).length c4) Ql.L.l, row k41 41 (.slice B4 (Ql.es).length d4) Ql.es, box gq [.slice A3 Q3.L.l.length c3, .bool Q3.L.dn, .int .i64 Q3.L.fu, .int .i64 Q3.L.fa, .int .i64 Q3.L.size, .int .u64 Q3.L.fr, .int .u64 Q3.L.nx, .bool Q3.L.br, .slice B3 Q3.es.length d3, .int .i64 Q3.most] 33, row Kd.string 9 (.slice (some ad2) (want).length co) want]) := ⟨Sep.F8 H.out⟩
       clear H c_x z_x c_y z_y c_q
       have H := n_
       clear n_
       have c_x := H.out.cell (g := gx) mem2
       have z_x := H.out.frozen (g := gx) mem2
       have c_y := H.out.cell (g := gy) mem3
       have z_y := H.out.frozen (g := gy) mem3
       have c_q := H.out.cell (g := gq) jM
       have n_ : aA (Sep w qck [row k67 67 (.slice A5 (Qd.L.l).length c5) Qd.L.l, row k41 41 (.slice B5 (Qd.es).length d5) Qd.es, box gx [.int .u64 x.f0, .string s, .bool true] 41, box gy [.slice A4 Ql.L.l.length c4, .bool Ql.L.dn, .int .i64 Ql.L.fu, .int .i64 Ql.L.fa, .int .i64 Ql.L.size, .int .u64 Ql.L.fr, .int .u64 Ql.L.nx, .bool Ql.L.br, .slice B4 Ql.es.length d4, .int .i64 Ql.most] 33, row k41 41 (.slice B4 (Ql.es).length d4) Ql.es, box gq [.slice A3 Q3.L.l.length c3, .bool Q3.L.dn, .int .i64 Q3.L.fu, .int .i64 Q3.L.fa, .int .i64 Q3.L.size, .int .u64 Q3.L.fr, .int .u64 Q3.L.nx, .bool Q3.L.br, .slice B3 Q3.es.length d3, .int .i64 Q3.most] 33, row Kd.string 9 (.slice (some ad2) (want).length co) want]) := ⟨Sep.lH H.out⟩
       clear H c_x z_x c_y z_y c_q
       have H := n_
       clear n_
       have c_x := H.out.cell (g := gx) mem2
       have z_x := H.out.frozen (g := gx) mem2
       have c_y := H.out.cell (g := gy) mem3
       have z_y := H.out.frozen (g := gy) mem3
       have c_q := H.out.cell (g := gq) dM
       have n_ : aA (Sep w qck [row k67 67 (.slice A5 (Qd.L.l).length c5) Qd.L.l, row k41 41 (.slice B5 (Qd.es).length d5) Qd.es, box gx [.int .u64 x.f0, .string s, .bool true] 41, box gy [.slice A4 Ql.L.l.length c4, .bool Ql.L.dn, .int .i64 Ql.L.fu, .int .i64 Ql.L.fa, .int .i64 Ql.L.size, .int .u64 Ql.L.fr, .int .u64 Ql.L.nx, .bool Ql.L.br, .slice B4 Ql.es.length d4, .int .i64 Ql.most] 33, box gq [.slice A3 Q3.L.l.length c3, .bool Q3.L.dn, .int .i64 Q3.L.fu, .int .i64 Q3.L.fa, .int .i64 Q3.L.size, .int .u64 Q3.L.fr, .int .u64 Q3.L.nx, .bool Q3.L.br, .slice B3 Q3.es.length d3, .int .i64 Q3.most] 33, row Kd.string 9 (.slice (some ad2) (want).length co) want]) := ⟨Sep.lH H.out⟩
       clear H c_x z_x c_y z_y c_q
       have H := n_
       clear n_
       have c_x := H.out.cell (g := gx) mem2
       have z_x := H.out.frozen (g := gx) mem2
       have c_y := H.out.cell (g := gy) mem3
       have z_y := H.out.frozen (g := gy) mem3
       have c_q := H.out.cell (g := gq) bM
       try rw [h10]
       have qgr := HAG
       clear HAG
       simp only [qc, lgc, List.cons_append, List.nil_append, h10] at qgr
       have HAG := qgr
       clear qgr
       go_wp2_with (first
 |((with_reducible refine aN (N := 20) rfl ?_);
   refine aX rfl H (cs := [.slice none 0 0, .bool false, .int .i64 0, .int .i64 0, .int .i64 0, .int .u64 0, .int .u64 0, .bool false, .slice none 0 0, .int .i64 0]) (t := 33) ?hr ?_;
   (case hr => first | (go_simp; done) | (go_simp; rfl));
   intro gu qkE n_;
   simp only [Act.put, zA, zZ, zS];
   clear H c_x z_x c_y z_y c_q;
   have H := n_;
   clear n_;
   have c_u := H.out.cell (g := gu) aH;
   have z_u := H.out.frozen (g := gu) aH;
   have c_x := H.out.cell (g := gx) mem3;
   have c_y := H.out.cell (g := gy) bM;
   have c_q := H.out.cell (g := gq) dM)
 |((with_reducible refine aK (t := 33) (p := 20) rfl ?_);
   refine aV (rs1 := [box gu [.slice A5 Qd.L.l.length c5, .bool Qd.L.dn, .int .i64 Qd.L.fu, .int .i64 Qd.L.fa, .int .i64 Qd.L.size, .int .u64 Qd.L.fr, .int .u64 Qd.L.nx, .bool true, .slice B5 Qd.es.length d5, .int .i64 Qd.most] 33, row k67 67 (.slice A5 (Qd.L.l).length c5) Qd.L.l, row k41 41 (.slice B5 (Qd.es).length d5) Qd.es, box gx [.int .u64 x.f0, .string s, .bool true] 41, box gy [.slice A4 Ql.L.l.length c4, .bool Ql.L.dn, .int .i64 Ql.L.fu, .int .i64 Ql.L.fa, .int .i64 Ql.L.size, .int .u64 Ql.L.fr, .int .u64 Ql.L.nx, .bool Ql.L.br, .slice B4 Ql.es.length d4, .int .i64 Ql.most] 33, box gq [.slice A3 Q3.L.l.length c3, .bool Q3.L.dn, .int .i64 Q3.L.fu, .int .i64 Q3.L.fa, .int .i64 Q3.L.size, .int .u64 Q3.L.fr, .int .u64 Q3.L.nx, .bool Q3.L.br, .slice B3 Q3.es.length d3, .int .i64 Q3.most] 33, row Kd.string 9 (.slice (some ad2) (want).length co) want]) rfl (t := 33) (p := 20) rfl rfl ?hr (H1 := (Sep.set0 (Sep.set0 (Sep.set0 (Sep.set0 (Sep.set0 (Sep.set0 (Sep.set0 (Sep.set0 (Sep.set0 (Sep.set0 H.out 0 (.slice A5 Qd.L.l.length c5) rfl) 1 (.bool Qd.L.dn) rfl) 2 (.int .i64 Qd.L.fu) rfl) 3 (.int .i64 Qd.L.fa) rfl) 4 (.int .i64 Qd.L.size) rfl) 5 (.int .u64 Qd.L.fr) rfl) 6 (.int .u64 Qd.L.nx) rfl) 7 (.bool true) rfl) 8 (.slice B5 Qd.es.length d5) rfl) 9 (.int .i64 Qd.most) rfl)) ?_;
   (case hr => first | (go_simp; done) | (go_simp; rfl));
   intro qkF n_;
   clear H c_u z_u c_x c_y c_q;
   have H := n_;
   clear n_;
   have c_u := H.out.cell (g := gu) aH;
   have z_u := H.out.frozen (g := gu) aH;
   have c_x := H.out.cell (g := gx) mem3;
   have c_y := H.out.cell (g := gy) bM;
   have c_q := H.out.cell (g := gq) dM)
 |fail)
       refine ((HAG.out _ _ _ _ _ (H.out.reads mem1).2.2 (H.out.reads mem1).2.1 (H.out.reads mem2).2.2 (H.out.reads mem2).2.1 (HG.out.below H.out.below)).mono ?_)
       rintro e qj4 ⟨A6, c6, B6, d6, rfl, HJ⟩
       have n_ : aA (Sep w qj4 [row k67 67 (.slice A6 (Qd.L.l).length c6) Qd.L.l, row k41 41 (.slice B6 (Qd.es).length d6) Qd.es, box gu [.slice A5 Qd.L.l.length c5, .bool Qd.L.dn, .int .i64 Qd.L.fu, .int .i64 Qd.L.fa, .int .i64 Qd.L.size, .int .u64 Qd.L.fr, .int .u64 Qd.L.nx, .bool true, .slice B5 Qd.es.length d5, .int .i64 Qd.most] 33, row k67 67 (.slice A5 (Qd.L.l).length c5) Qd.L.l, row k41 41 (.slice B5 (Qd.es).length d5) Qd.es, box gx [.int .u64 x.f0, .string s, .bool true] 41, box gy [.slice A4 Ql.L.l.length c4, .bool Ql.L.dn, .int .i64 Ql.L.fu, .int .i64 Ql.L.fa, .int .i64 Ql.L.size, .int .u64 Ql.L.fr, .int .u64 Ql.L.nx, .bool Ql.L.br, .slice B4 Ql.es.length d4, .int .i64 Ql.most] 33, box gq [.slice A3 Q3.L.l.length c3, .bool Q3.L.dn, .int .i64 Q3.L.fu, .int .i64 Q3.L.fa, .int .i64 Q3.L.size, .int .u64 Q3.L.fr, .int .u64 Q3.L.nx, .bool Q3.L.br, .slice B3 Q3.es.length d3, .int .i64 Q3.most] 33, row Kd.string 9 (.slice (some ad2) (want).length co) want]) := ⟨dI H.out HJ.out⟩
       clear H c_u z_u c_x c_y c_q
       have H := n_
       clear n_
       have c_u := H.out.cell (g := gu) mem2
       have z_u := H.out.frozen (g := gu) mem2
       have c_x := H.out.cell (g := gx) dM
       have c_y := H.out.cell (g := gy) jM
       have c_q := H.out.cell (g := gq) jE
       clear HJ
       simp only [qc, lgc, List.cons_append, List.nil_append]
       try rw [h10]
       go_wp2_with (first
 |((with_reducible refine aN (N := 22) rfl ?_);
   refine aX rfl H (cs := [.slice none 0 0, .bool false, .int .i64 0, .int .i64 0, .int .i64 0, .int .u64 0, .int .u64 0, .bool false, .slice none 0 0, .int .i64 0]) (t := 33) ?hr ?_;
   (case hr => first | (go_simp; done) | (go_simp; rfl));
   intro gv qkG n_;
   simp only [Act.put, zA, zZ, zS];
   clear H c_u z_u c_x c_y c_q;
   have H := n_;
   clear n_;
   have c_v := H.out.cell (g := gv) aH;
   have z_v := H.out.frozen (g := gv) aH;
   have c_u := H.out.cell (g := gu) mem3;
   have c_x := H.out.cell (g := gx) jM;
   have c_y := H.out.cell (g := gy) jE;
   have c_q := H.out.cell (g := gq) oN)
 |((with_reducible refine aK (t := 33) (p := 22) rfl ?_);
   refine aV (rs1 := [box gv [.slice A6 Qd.L.l.length c6, .bool Qd.L.dn, .int .i64 Qd.L.fu, .int .i64 Qd.L.fa, .int .i64 Qd.L.size, .int .u64 Qd.L.fr, .int .u64 Qd.L.nx, .bool true, .slice B6 Qd.es.length d6, .int .i64 Qd.most] 33, row k67 67 (.slice A6 (Qd.L.l).length c6) Qd.L.l, row k41 41 (.slice B6 (Qd.es).length d6) Qd.es, box gu [.slice A5 Qd.L.l.length c5, .bool Qd.L.dn, .int .i64 Qd.L.fu, .int .i64 Qd.L.fa, .int .i64 Qd.L.size, .int .u64 Qd.L.fr, .int .u64 Qd.L.nx, .bool true, .slice B5 Qd.es.length d5, .int .i64 Qd.most] 33, row k67 67 (.slice A5 (Qd.L.l).length c5) Qd.L.l, row k41 41 (.slice B5 (Qd.es).length d5) Qd.es, box gx [.int .u64 x.f0, .string s, .bool true] 41, box gy [.slice A4 Ql.L.l.length c4, .bool Ql.L.dn, .int .i64 Ql.L.fu, .int .i64 Ql.L.fa, .int .i64 Ql.L.size, .int .u64 Ql.L.fr, .int .u64 Ql.L.nx, .bool Ql.L.br, .slice B4 Ql.es.length d4, .int .i64 Ql.most] 33, box gq [.slice A3 Q3.L.l.length c3, .bool Q3.L.dn, .int .i64 Q3.L.fu, .int .i64 Q3.L.fa, .int .i64 Q3.L.size, .int .u64 Q3.L.fr, .int .u64 Q3.L.nx, .bool Q3.L.br, .slice B3 Q3.es.length d3, .int .i64 Q3.most] 33, row Kd.string 9 (.slice (some ad2) (want).length co) want]) rfl (t := 33) (p := 22) rfl rfl ?hr (H1 := (Sep.set0 (Sep.set0 (Sep.set0 (Sep.set0 (Sep.set0 (Sep.set0 (Sep.set0 (Sep.set0 (Sep.set0 (Sep.set0 H.out 0 (.slice A6 Qd.L.l.length c6) rfl) 1 (.bool Qd.L.dn) rfl) 2 (.int .i64 Qd.L.fu) rfl) 3 (.int .i64 Qd.L.fa) rfl) 4 (.int .i64 Qd.L.size) rfl) 5 (.int .u64 Qd.L.fr) rfl) 6 (.int .u64 Qd.L.nx) rfl) 7 (.bool true) rfl) 8 (.slice B6 Qd.es.length d6) rfl) 9 (.int .i64 Qd.most) rfl)) ?_;
   (case hr => first | (go_simp; done) | (go_simp; rfl));
   intro qkH n_;
   clear H c_v z_v c_u c_x c_y c_q;
   have H := n_;
   clear n_;
   have c_v := H.out.cell (g := gv) aH;
   have z_v := H.out.frozen (g := gv) aH;
   have c_u := H.out.cell (g := gu) mem3;
   have c_x := H.out.cell (g := gx) jM;
   have c_y := H.out.cell (g := gy) jE;
   have c_q := H.out.cell (g := gq) oN)
 |fail)
       go_ret
       exact ⟨by first | rfl | simp, H.out.below⟩
     ·
      have hie : j = want.length := by omega
      subst hie
      have hnl : ¬ (want.length : Int) < (want.length : Int) := by omega
      have HF4 := HF3.out
      rw [List.drop_length] at HF4
      obtain ⟨h1, h2, h3⟩ := HF4.none
      have HLE := aA.mk (sF A3 c3 B3 d3 Q3)
      rw [h1, h2] at HLE
      dsimp only at HLE
      have hl0 : (Q3.es.length : Int) = 0 := by rw [h3]; rfl
      have hl1 : ((Q3.es.length : Int) == 0) = true := by rw [hl0]; rfl
      clear h1 h2 h3 HF4
      go_wp2_with fail
      refine ((HLE.out _ (H.out.reads mem1).2.2 (H.out.reads mem1).2.1 (H.out.reads mem2).2.2 (H.out.reads mem2).2.1 (HG.out.below H.out.below) HOK.out.1 HOK.out.2.1 HOK.out.2.2).mono ?_)
      rintro e qj5 ⟨A4, c4, B4, d4, rfl, HJ⟩
      have n_ : aA (Sep w qj5 [row k67 67 (.slice A4 (Q3.L.l).length c4) Q3.L.l, row k41 41 (.slice B4 (Q3.es).length d4) Q3.es, box gq [.slice A3 Q3.L.l.length c3, .bool Q3.L.dn, .int .i64 Q3.L.fu, .int .i64 Q3.L.fa, .int .i64 Q3.L.size, .int .u64 Q3.L.fr, .int .u64 Q3.L.nx, .bool Q3.L.br, .slice B3 Q3.es.length d3, .int .i64 Q3.most] 33, row k67 67 (.slice A3 (Q3.L.l).length c3) Q3.L.l, row k41 41 (.slice B3 (Q3.es).length d3) Q3.es, row Kd.string 9 (.slice Ao (want).length co) want]) := ⟨dI H.out HJ.out⟩
      clear H c_q z_q
      have H := n_
      clear n_
      have c_q := H.out.cell (g := gq) mem2
      have z_q := H.out.frozen (g := gq) mem2
      clear HJ
      simp only [qc, lgc, List.cons_append, List.nil_append]
      simp only [z41]
      go_wp2_with fail
      go_ret
      exact ⟨by first | rfl | simp, H.out.below⟩
end Go.Proofs.YtanonhipicoigaaGreatDoor.U
