import Derived.BigRegion
import Derived.LoopN
import Derived.Deep.DeepCutAuto
import Derived.Test.YtanonhipicoigaaGreatDoorZQau
import Derived.Test.YtanonhipicoigaaGreatDoorZQag
set_option linter.unusedVariables false
set_option linter.unusedSimpArgs false
namespace Go.Proofs.YtanonhipicoigaaGreatDoor.U
open Go.RowKit Go.Proofs.YW.PrintWords Go.Proofs.YW.PrintLast Go.Proofs.YW.PrintMore Go.Proofs.YtanonhipicoigaaGreatDoor.Sp Go.Proofs.YtanonhipicoigaaGreatDoor.eP
set_option maxHeartbeats 1600000 in
set_option maxRecDepth 100000 in
theorem qaf (A : Option Addr) (c : Nat) (B : Option Addr) (d : Nat) (P : Qu) (Ak : Option Addr) (ck : Nat) (ks : List Int) (w : World) (hr : Kd.C k67 w A P.L.l.length P.L.l) (hc : P.L.l.length ≤ c) (hrk : Kd.C (Kd.int .i64) w Ak ks.length ks) (hck : ks.length ≤ ck) (hG : Gl w) :
  Calls Tryz.prog 13 #[.agg (qc A c B d P).toArray, .slice Ak ks.length ck] w fun e w' => e = .returned (.bool true) ∧ Below w.heap.size w w' := by
 have HRp := aA.mk hr
 have HCp := aA.mk hc
 have HRk := aA.mk hrk
 have HCk := aA.mk hck
 have HG := aA.mk hG
 clear hr hc hrk hck hG
 simp only [qc, lgc, List.cons_append, List.nil_append]
 have H := aA.mk (Sep.start w)
 go_enter Tryz.func13, Tryz.ntmps13
 go_wp2_with (first
 |((with_reducible refine aN (N := 2) rfl ?_);
   refine aX rfl H (cs := [.slice A P.L.l.length c, .bool P.L.dn, .int .i64 P.L.fu, .int .i64 P.L.fa, .int .i64 P.L.size, .int .u64 P.L.fr, .int .u64 P.L.nx, .bool P.L.br, .slice B P.es.length d, .int .i64 P.most]) (t := 33) ?hr ?_;
   (case hr => first | (go_simp; done) | (go_simp; rfl));
   intro gq wd1 n_;
   simp only [Act.put, zA, zZ, zS];
   clear H;
   have H := n_;
   clear n_;
   have c_q := H.out.cell (g := gq) aH)
 |fail)
 refine ((wL _ (HG.out.below H.out.below)).mono ?_)
 rintro e wd2 ⟨rfl, hb_⟩
 have n_ : aA (Sep w wd2 [box gq [.slice A P.L.l.length c, .bool P.L.dn, .int .i64 P.L.fu, .int .i64 P.L.fa, .int .i64 P.L.size, .int .u64 P.L.fr, .int .u64 P.L.nx, .bool P.L.br, .slice B P.es.length d, .int .i64 P.most] 33]) := ⟨H.out.step hb_⟩
 clear H c_q
 have H := n_
 clear n_
 have c_q := H.out.cell (g := gq) aH
 clear hb_
 go_wp2_with fail
 by_cases hR : bI P.L.l = true
 ·
  refine ((oU.calls A c P.L.l P.L.dn P.L.fu P.L.fa Ak ck ks (gW P.L.l ks) false (-1) (-1) 0 _ (H.out.came HRp.out) HCp.out (H.out.came HRk.out) HCk.out (by rw [oU.f, if_pos hR])).mono ?_)
  rintro e wd3 ⟨v_, rfl, ho_, hb_⟩
  obtain ⟨Af, cf, eo_⟩ := Kd.dU ho_
  subst eo_
  have n_ : aA (Sep w wd3 [row k67 67 (.slice Af ((gW P.L.l ks)).length cf) ((gW P.L.l ks)), box gq [.slice A P.L.l.length c, .bool P.L.dn, .int .i64 P.L.fu, .int .i64 P.L.fa, .int .i64 P.L.size, .int .u64 P.L.fr, .int .u64 P.L.nx, .bool P.L.br, .slice B P.es.length d, .int .i64 P.most] 33]) := ⟨Sep.iL H.out hb_ ho_ kN⟩
  clear H c_q
  have H := n_
  clear n_
  have c_q := H.out.cell (g := gq) mem1
  clear ho_ hb_
  obtain ⟨Q, e, hO⟩ : ∃ Q e, jH (gW P.L.l ks) false (-1) (-1) 100 5 = (Q, e) := ⟨_, _, rfl⟩
  have HOP := aA.mk (fun A c w hr hc hG => sG A c (gW P.L.l ks) false (-1) (-1) 100 5 w hr hc hG)
  rw [hO] at HOP
  dsimp only at HOP
  have HO := aA.mk hO
  clear hO hR
  go_wp2_with (first
 |((with_reducible refine aN (N := 5) rfl ?_);
   refine aX rfl H (cs := [.slice none 0 0, .bool false, .int .i64 0, .int .i64 0]) (t := 27) ?hr ?_;
   (case hr => first | (go_simp; done) | (go_simp; rfl));
   intro gd wd4 n_;
   simp only [Act.put, zA, zZ, zS];
   clear H c_q;
   have H := n_;
   clear n_;
   have c_d := H.out.cell (g := gd) aH;
   have z_d := H.out.frozen (g := gd) aH;
   have c_q := H.out.cell (g := gq) mem2)
 |((with_reducible refine aK (t := 27) (p := 5) rfl ?_);
   refine aV (rs1 := [box gd [.slice Af (gW P.L.l ks).length cf, .bool false, .int .i64 (-1), .int .i64 (-1)] 27, row k67 67 (.slice Af ((gW P.L.l ks)).length cf) ((gW P.L.l ks)), box gq [.slice A P.L.l.length c, .bool P.L.dn, .int .i64 P.L.fu, .int .i64 P.L.fa, .int .i64 P.L.size, .int .u64 P.L.fr, .int .u64 P.L.nx, .bool P.L.br, .slice B P.es.length d, .int .i64 P.most] 33]) rfl (t := 27) (p := 5) rfl rfl ?hr (H1 := (Sep.set0 (Sep.set0 (Sep.set0 (Sep.set0 H.out 0 (.slice Af (gW P.L.l ks).length cf) rfl) 1 (.bool false) rfl) 2 (.int .i64 (-1)) rfl) 3 (.int .i64 (-1)) rfl)) ?_;
   (case hr => first | (go_simp; done) | (go_simp; rfl));
   intro wd5 n_;
   clear H c_d z_d c_q;
   have H := n_;
   clear n_;
   have c_d := H.out.cell (g := gd) aH;
   have z_d := H.out.frozen (g := gd) aH;
   have c_q := H.out.cell (g := gq) mem2)
 |fail)
  refine ((HOP.out _ _ _ (H.out.reads mem1).2.2 (H.out.reads mem1).2.1 (HG.out.below H.out.below)).mono ?_)
  rintro e wd6 ⟨A1, c1, B1, d1, rfl, HJ⟩
  have n_ : aA (Sep w wd6 [row k67 67 (.slice A1 (Q.L.l).length c1) Q.L.l, row k41 41 (.slice B1 (Q.es).length d1) Q.es, box gd [.slice Af (gW P.L.l ks).length cf, .bool false, .int .i64 (-1), .int .i64 (-1)] 27, row k67 67 (.slice Af ((gW P.L.l ks)).length cf) ((gW P.L.l ks)), box gq [.slice A P.L.l.length c, .bool P.L.dn, .int .i64 P.L.fu, .int .i64 P.L.fa, .int .i64 P.L.size, .int .u64 P.L.fr, .int .u64 P.L.nx, .bool P.L.br, .slice B P.es.length d, .int .i64 P.most] 33]) := ⟨dI H.out HJ.out⟩
  clear H c_d z_d c_q
  have H := n_
  clear n_
  have c_d := H.out.cell (g := gd) mem2
  have z_d := H.out.frozen (g := gd) mem2
  have c_q := H.out.cell (g := gq) bM
  clear HJ
  simp only [qc, lgc, List.cons_append, List.nil_append]
  clear HOP
  have n_ : aA (Sep w wd6 [row k67 67 (.slice A1 (Q.L.l).length c1) Q.L.l, row k41 41 (.slice B1 (Q.es).length d1) Q.es, box gd [.slice Af (gW P.L.l ks).length cf, .bool false, .int .i64 (-1), .int .i64 (-1)] 27, box gq [.slice A P.L.l.length c, .bool P.L.dn, .int .i64 P.L.fu, .int .i64 P.L.fa, .int .i64 P.L.size, .int .u64 P.L.fr, .int .u64 P.L.nx, .bool P.L.br, .slice B P.es.length d, .int .i64 P.most] 33]) := ⟨Sep.iZ H.out⟩
  clear H c_d z_d c_q
  have H := n_
  clear n_
  have c_d := H.out.cell (g := gd) mem2
  have z_d := H.out.frozen (g := gd) mem2
  have c_q := H.out.cell (g := gq) mem3
  by_cases he : e = 0
  ·
   subst he
   obtain ⟨hok, qhk, hes, hll, hfree⟩ := qeg HO.out
   have HFR := aA.mk hfree
   have HLE := aA.mk hes
   have HOP := aA.mk (fun A c w hr hc hG => sG A c Q.L.l Q.L.dn Q.L.fu Q.L.fa 100 5 w hr hc hG)
   rw [XY HO.out] at HOP
   dsimp only at HOP
   have HSM := aA.mk (And.intro hll hes)
   have HCK : aA (bK.f (Q.es.length + 3) Q.L.l Q.L.dn Q.L.fu Q.L.fa Q.L.size Q.L.fr Q.L.nx Q.L.br Q.es Q.most = some 0) := ⟨by rw [VB Q qhk.1 (by omega), if_pos hok]⟩
   clear hok qhk hes hll hfree
   go_wp2_with (first
 |((with_reducible refine aN (N := 7) rfl ?_);
   refine aX rfl H (cs := [.slice none 0 0, .bool false, .int .i64 0, .int .i64 0, .int .i64 0, .int .u64 0, .int .u64 0, .bool false, .slice none 0 0, .int .i64 0]) (t := 33) ?hr ?_;
   (case hr => first | (go_simp; done) | (go_simp; rfl));
   intro ga wd7 n_;
   simp only [Act.put, zA, zZ, zS];
   clear H c_d z_d c_q;
   have H := n_;
   clear n_;
   have c_a := H.out.cell (g := ga) aH;
   have z_a := H.out.frozen (g := ga) aH;
   have c_d := H.out.cell (g := gd) mem3;
   have c_q := H.out.cell (g := gq) bM)
 |((with_reducible refine aK (t := 33) (p := 7) rfl ?_);
   refine aV (rs1 := [box ga [.slice A1 Q.L.l.length c1, .bool Q.L.dn, .int .i64 Q.L.fu, .int .i64 Q.L.fa, .int .i64 Q.L.size, .int .u64 Q.L.fr, .int .u64 Q.L.nx, .bool Q.L.br, .slice B1 Q.es.length d1, .int .i64 Q.most] 33, row k67 67 (.slice A1 (Q.L.l).length c1) Q.L.l, row k41 41 (.slice B1 (Q.es).length d1) Q.es, box gd [.slice Af (gW P.L.l ks).length cf, .bool false, .int .i64 (-1), .int .i64 (-1)] 27, box gq [.slice A P.L.l.length c, .bool P.L.dn, .int .i64 P.L.fu, .int .i64 P.L.fa, .int .i64 P.L.size, .int .u64 P.L.fr, .int .u64 P.L.nx, .bool P.L.br, .slice B P.es.length d, .int .i64 P.most] 33]) rfl (t := 33) (p := 7) rfl rfl ?hr (H1 := (Sep.set0 (Sep.set0 (Sep.set0 (Sep.set0 (Sep.set0 (Sep.set0 (Sep.set0 (Sep.set0 (Sep.set0 (Sep.set0 H.out 0 (.slice A1 Q.L.l.length c1) rfl) 1 (.bool Q.L.dn) rfl) 2 (.int .i64 Q.L.fu) rfl) 3 (.int .i64 Q.L.fa) rfl) 4 (.int .i64 Q.L.size) rfl) 5 (.int .u64 Q.L.fr) rfl) 6 (.int .u64 Q.L.nx) rfl) 7 (.bool Q.L.br) rfl) 8 (.slice B1 Q.es.length d1) rfl) 9 (.int .i64 Q.most) rfl)) ?_;
   (case hr => first | (go_simp; done) | (go_simp; rfl));
   intro wd8 n_;
   clear H c_a z_a c_d c_q;
   have H := n_;
   clear n_;
   have c_a := H.out.cell (g := ga) aH;
   have z_a := H.out.frozen (g := ga) aH;
   have c_d := H.out.cell (g := gd) mem3;
   have c_q := H.out.cell (g := gq) bM)
 |fail)
   refine ((HOP.out _ _ _ (H.out.reads mem1).2.2 (H.out.reads mem1).2.1 (HG.out.below H.out.below)).mono ?_)
   rintro e wd9 ⟨A2, c2, B2, d2, rfl, HJ⟩
   have n_ : aA (Sep w wd9 [row k67 67 (.slice A2 (Q.L.l).length c2) Q.L.l, row k41 41 (.slice B2 (Q.es).length d2) Q.es, box ga [.slice A1 Q.L.l.length c1, .bool Q.L.dn, .int .i64 Q.L.fu, .int .i64 Q.L.fa, .int .i64 Q.L.size, .int .u64 Q.L.fr, .int .u64 Q.L.nx, .bool Q.L.br, .slice B1 Q.es.length d1, .int .i64 Q.most] 33, row k67 67 (.slice A1 (Q.L.l).length c1) Q.L.l, row k41 41 (.slice B1 (Q.es).length d1) Q.es, box gd [.slice Af (gW P.L.l ks).length cf, .bool false, .int .i64 (-1), .int .i64 (-1)] 27, box gq [.slice A P.L.l.length c, .bool P.L.dn, .int .i64 P.L.fu, .int .i64 P.L.fa, .int .i64 P.L.size, .int .u64 P.L.fr, .int .u64 P.L.nx, .bool P.L.br, .slice B P.es.length d, .int .i64 P.most] 33]) := ⟨dI H.out HJ.out⟩
   clear H c_a z_a c_d c_q
   have H := n_
   clear n_
   have c_a := H.out.cell (g := ga) mem2
   have z_a := H.out.frozen (g := ga) mem2
   have c_d := H.out.cell (g := gd) dM
   have c_q := H.out.cell (g := gq) jM
   clear HJ
   simp only [qc, lgc, List.cons_append, List.nil_append]
   clear HOP
   go_wp2_with (first
 |((with_reducible refine aN (N := 9) rfl ?_);
   refine aX rfl H (cs := [.slice none 0 0, .bool false, .int .i64 0, .int .i64 0, .int .i64 0, .int .u64 0, .int .u64 0, .bool false, .slice none 0 0, .int .i64 0]) (t := 33) ?hr ?_;
   (case hr => first | (go_simp; done) | (go_simp; rfl));
   intro gb DC n_;
   simp only [Act.put, zA, zZ, zS];
   clear H c_a z_a c_d c_q;
   have H := n_;
   clear n_;
   have c_b := H.out.cell (g := gb) aH;
   have z_b := H.out.frozen (g := gb) aH;
   have c_a := H.out.cell (g := ga) mem3;
   have c_d := H.out.cell (g := gd) jM;
   have c_q := H.out.cell (g := gq) jE)
 |((with_reducible refine aK (t := 33) (p := 9) rfl ?_);
   refine aV (rs1 := [box gb [.slice A2 Q.L.l.length c2, .bool Q.L.dn, .int .i64 Q.L.fu, .int .i64 Q.L.fa, .int .i64 Q.L.size, .int .u64 Q.L.fr, .int .u64 Q.L.nx, .bool Q.L.br, .slice B2 Q.es.length d2, .int .i64 Q.most] 33, row k67 67 (.slice A2 (Q.L.l).length c2) Q.L.l, row k41 41 (.slice B2 (Q.es).length d2) Q.es, box ga [.slice A1 Q.L.l.length c1, .bool Q.L.dn, .int .i64 Q.L.fu, .int .i64 Q.L.fa, .int .i64 Q.L.size, .int .u64 Q.L.fr, .int .u64 Q.L.nx, .bool Q.L.br, .slice B1 Q.es.length d1, .int .i64 Q.most] 33, row k67 67 (.slice A1 (Q.L.l).length c1) Q.L.l, row k41 41 (.slice B1 (Q.es).length d1) Q.es, box gd [.slice Af (gW P.L.l ks).length cf, .bool false, .int .i64 (-1), .int .i64 (-1)] 27, box gq [.slice A P.L.l.length c, .bool P.L.dn, .int .i64 P.L.fu, .int .i64 P.L.fa, .int .i64 P.L.size, .int .u64 P.L.fr, .int .u64 P.L.nx, .bool P.L.br, .slice B P.es.length d, .int .i64 P.most] 33]) rfl (t := 33) (p := 9) rfl rfl ?hr (H1 := (Sep.set0 (Sep.set0 (Sep.set0 (Sep.set0 (Sep.set0 (Sep.set0 (Sep.set0 (Sep.set0 (Sep.set0 (Sep.set0 H.out 0 (.slice A2 Q.L.l.length c2) rfl) 1 (.bool Q.L.dn) rfl) 2 (.int .i64 Q.L.fu) rfl) 3 (.int .i64 Q.L.fa) rfl) 4 (.int .i64 Q.L.size) rfl) 5 (.int .u64 Q.L.fr) rfl) 6 (.int .u64 Q.L.nx) rfl) 7 (.bool Q.L.br) rfl) 8 (.slice B2 Q.es.length d2) rfl) 9 (.int .i64 Q.most) rfl)) ?_;
   (case hr => first | (go_simp; done) | (go_simp; rfl));
   intro MO n_;
   clear H c_b z_b c_a c_d c_q;
   have H := n_;
   clear n_;
   have c_b := H.out.cell (g := gb) aH;
   have z_b := H.out.frozen (g := gb) aH;
   have c_a := H.out.cell (g := ga) mem3;
   have c_d := H.out.cell (g := gd) jM;
   have c_q := H.out.cell (g := gq) jE)
 |fail)
   go_loopw [4, 12, 46] (fun v4 v12 v46 wr => ∃ i : Nat, v46 = .int .i64 (i : Int) ∧ i ≤ Q.es.length ∧ aA (Sep w wr [box gb [.slice A2 Q.L.l.length c2, .bool Q.L.dn, .int .i64 Q.L.fu, .int .i64 Q.L.fa, .int .i64 Q.L.size, .int .u64 Q.L.fr, .int .u64 Q.L.nx, .bool Q.L.br, .slice B2 Q.es.length d2, .int .i64 Q.most] 33, row k67 67 (.slice A2 (Q.L.l).length c2) Q.L.l, row k41 41 (.slice B2 (Q.es).length d2) Q.es, box ga [.slice A1 Q.L.l.length c1, .bool Q.L.dn, .int .i64 Q.L.fu, .int .i64 Q.L.fa, .int .i64 Q.L.size, .int .u64 Q.L.fr, .int .u64 Q.L.nx, .bool Q.L.br, .slice B1 Q.es.length d1, .int .i64 Q.most] 33, row k67 67 (.slice A1 (Q.L.l).length c1) Q.L.l, row k41 41 (.slice B1 (Q.es).length d1) Q.es, box gd [.slice Af (gW P.L.l ks).length cf, .bool false, .int .i64 (-1), .int .i64 (-1)] 27, box gq [.slice A P.L.l.length c, .bool P.L.dn, .int .i64 P.L.fu, .int .i64 P.L.fa, .int .i64 P.L.size, .int .u64 P.L.fr, .int .u64 P.L.nx, .bool P.L.br, .slice B P.es.length d, .int .i64 P.most] 33])) (fun _ _ v46 _ => Q.es.length - (intOf v46).toNat)
   case atStart => exact ⟨0, rfl, Nat.zero_le _, H⟩
   case round =>
    clear H c_b z_b c_a c_d c_q
    obtain ⟨i, rfl, hi, H⟩ := hrel
    have c_b := H.out.cell (g := gb) aH
    have c_a := H.out.cell (g := ga) mem3
    have c_d := H.out.cell (g := gd) jM
    have c_q := H.out.cell (g := gq) jE
    by_cases hil : i < Q.es.length
    ·
     obtain ⟨x, hx⟩ : ∃ x, Q.es[i]? = some x := ⟨_, List.getElem?_eq_getElem hil⟩
     obtain ⟨gp, hgp⟩ := pI (B := B1) (d := d1) (es := Q.es) H.out dM (by omega)
     subst hgp
     obtain ⟨q0, q1, q2, -⟩ := pX (gp := gp) (d := d1) (es := Q.es) (i := i) H.out dM hx
     have HX := aA.mk (HFR.out x (List.mem_of_getElem? hx))
     rw [HX.out] at q2
     have qgP : (i : Int) < (Q.es.length : Int) := by omega
     have hi0 : (0 : Int) ≤ (i : Int) := by omega
     have hw3 : wrap64 ((i : Int) + 1) = ((i + 1 : Nat) : Int) := by
      have := HLE.out
      unfold wrap64
      omega
     clear hx
     go_wp2_with (first
 |((with_reducible refine aN (N := 12) rfl ?_);
   refine aX rfl H (cs := [.int .u64 0, .string ⟨#[]⟩, .bool false]) (t := 41) ?hr ?_;
   (case hr => first | (go_simp; done) | (go_simp; rfl));
   intro gx yV n_;
   simp only [Act.put, zA, zZ, zS];
   clear H c_b c_a c_d c_q;
   have H := n_;
   clear n_;
   have c_x := H.out.cell (g := gx) aH;
   have z_x := H.out.frozen (g := gx) aH;
   have c_b := H.out.cell (g := gb) mem1;
   have c_a := H.out.cell (g := ga) bM;
   have c_d := H.out.cell (g := gd) jE;
   have c_q := H.out.cell (g := gq) oN)
 |((with_reducible refine aK (t := 41) (p := 12) rfl ?_);
   refine aV (rs1 := [box gx [.int .u64 x.f0, .string x.f1, .bool false] 41, box gb [.slice A2 Q.L.l.length c2, .bool Q.L.dn, .int .i64 Q.L.fu, .int .i64 Q.L.fa, .int .i64 Q.L.size, .int .u64 Q.L.fr, .int .u64 Q.L.nx, .bool Q.L.br, .slice B2 Q.es.length d2, .int .i64 Q.most] 33, row k67 67 (.slice A2 (Q.L.l).length c2) Q.L.l, row k41 41 (.slice B2 (Q.es).length d2) Q.es, box ga [.slice A1 Q.L.l.length c1, .bool Q.L.dn, .int .i64 Q.L.fu, .int .i64 Q.L.fa, .int .i64 Q.L.size, .int .u64 Q.L.fr, .int .u64 Q.L.nx, .bool Q.L.br, .slice (some ⟨gp, 0, none⟩) Q.es.length d1, .int .i64 Q.most] 33, row k67 67 (.slice A1 (Q.L.l).length c1) Q.L.l, row k41 41 (.slice (some ⟨gp, 0, none⟩) (Q.es).length d1) Q.es, box gd [.slice Af (gW P.L.l ks).length cf, .bool false, .int .i64 (-1), .int .i64 (-1)] 27, box gq [.slice A P.L.l.length c, .bool P.L.dn, .int .i64 P.L.fu, .int .i64 P.L.fa, .int .i64 P.L.size, .int .u64 P.L.fr, .int .u64 P.L.nx, .bool P.L.br, .slice B P.es.length d, .int .i64 P.most] 33]) rfl (t := 41) (p := 12) rfl rfl ?hr (H1 := (Sep.set0 (Sep.set0 (Sep.set0 H.out 0 (.int .u64 x.f0) rfl) 1 (.string x.f1) rfl) 2 (.bool false) rfl)) ?_;
   (case hr => first | (go_simp; done) | (go_simp; rfl));
   intro DF n_;
   clear H c_x z_x c_b c_a c_d c_q;
   have H := n_;
   clear n_;
   have c_x := H.out.cell (g := gx) aH;
   have z_x := H.out.frozen (g := gx) aH;
   have c_b := H.out.cell (g := gb) mem1;
   have c_a := H.out.cell (g := ga) bM;
   have c_d := H.out.cell (g := gd) jE;
   have c_q := H.out.cell (g := gq) oN;
   clear q0 q1 q2)
 |fail)
     try rw [hw3]
     exact ⟨⟨i + 1, rfl, by omega, ⟨(Sep.dW H.out)⟩⟩, by simp [intOf] <;> omega⟩
    ·
     have hie : i = Q.es.length := by omega
     subst hie
     have hnl : ¬ (Q.es.length : Int) < (Q.es.length : Int) := by omega
     go_wp2_with fail
     refine ((DW A1 c1 B1 d1 A2 c2 B2 d2 Q _ (H.out.reads bM).2.2 (H.out.reads bM).2.1 (H.out.reads dM).2.2 (H.out.reads dM).2.1 (H.out.reads mem1).2.2 (H.out.reads mem1).2.1 (H.out.reads mem2).2.2 (H.out.reads mem2).2.1 HSM.out.1 HSM.out.2).mono ?_)
     rintro e PE ⟨rfl, hb_⟩
     have n_ : aA (Sep w PE [box gb [.slice A2 Q.L.l.length c2, .bool Q.L.dn, .int .i64 Q.L.fu, .int .i64 Q.L.fa, .int .i64 Q.L.size, .int .u64 Q.L.fr, .int .u64 Q.L.nx, .bool Q.L.br, .slice B2 Q.es.length d2, .int .i64 Q.most] 33, row k67 67 (.slice A2 (Q.L.l).length c2) Q.L.l, row k41 41 (.slice B2 (Q.es).length d2) Q.es, box ga [.slice A1 Q.L.l.length c1, .bool Q.L.dn, .int .i64 Q.L.fu, .int .i64 Q.L.fa, .int .i64 Q.L.size, .int .u64 Q.L.fr, .int .u64 Q.L.nx, .bool Q.L.br, .slice B1 Q.es.length d1, .int .i64 Q.most] 33, row k67 67 (.slice A1 (Q.L.l).length c1) Q.L.l, row k41 41 (.slice B1 (Q.es).length d1) Q.es, box gd [.slice Af (gW P.L.l ks).length cf, .bool false, .int .i64 (-1), .int .i64 (-1)] 27, box gq [.slice A P.L.l.length c, .bool P.L.dn, .int .i64 P.L.fu, .int .i64 P.L.fa, .int .i64 P.L.size, .int .u64 P.L.fr, .int .u64 P.L.nx, .bool P.L.br, .slice B P.es.length d, .int .i64 P.most] 33]) := ⟨H.out.step hb_⟩
     clear H c_b c_a c_d c_q
     have H := n_
     clear n_
     have c_b := H.out.cell (g := gb) aH
     have c_a := H.out.cell (g := ga) mem3
     have c_d := H.out.cell (g := gd) jM
     have c_q := H.out.cell (g := gq) jE
     clear hb_
     go_wp2_with fail
     refine ((bK.calls (Q.es.length + 3) A1 c1 Q.L.l Q.L.dn Q.L.fu Q.L.fa Q.L.size Q.L.fr Q.L.nx Q.L.br B1 d1 Q.es Q.most 0 _ (H.out.reads bM).2.2 (H.out.reads bM).2.1 (H.out.reads dM).2.2 (H.out.reads dM).2.1 HCK.out).mono ?_)
     rintro e DI ⟨rfl, hb_⟩
     have n_ : aA (Sep w DI [box gb [.slice A2 Q.L.l.length c2, .bool Q.L.dn, .int .i64 Q.L.fu, .int .i64 Q.L.fa, .int .i64 Q.L.size, .int .u64 Q.L.fr, .int .u64 Q.L.nx, .bool Q.L.br, .slice B2 Q.es.length d2, .int .i64 Q.most] 33, row k67 67 (.slice A2 (Q.L.l).length c2) Q.L.l, row k41 41 (.slice B2 (Q.es).length d2) Q.es, box ga [.slice A1 Q.L.l.length c1, .bool Q.L.dn, .int .i64 Q.L.fu, .int .i64 Q.L.fa, .int .i64 Q.L.size, .int .u64 Q.L.fr, .int .u64 Q.L.nx, .bool Q.L.br, .slice B1 Q.es.length d1, .int .i64 Q.most] 33, row k67 67 (.slice A1 (Q.L.l).length c1) Q.L.l, row k41 41 (.slice B1 (Q.es).length d1) Q.es, box gd [.slice Af (gW P.L.l ks).length cf, .bool false, .int .i64 (-1), .int .i64 (-1)] 27, box gq [.slice A P.L.l.length c, .bool P.L.dn, .int .i64 P.L.fu, .int .i64 P.L.fa, .int .i64 P.L.size, .int .u64 P.L.fr, .int .u64 P.L.nx, .bool P.L.br, .slice B P.es.length d, .int .i64 P.most] 33]) := ⟨H.out.step hb_⟩
     clear H c_b c_a c_d c_q
     have H := n_
     clear n_
     have c_b := H.out.cell (g := gb) aH
     have c_a := H.out.cell (g := ga) mem3
     have c_d := H.out.cell (g := gd) jM
     have c_q := H.out.cell (g := gq) jE
     clear hb_
     go_wp2_with fail
     go_ret
     exact ⟨rfl, H.out.below⟩
  ·
   have HEN : aA (Q.es = []) := ⟨by
    have h := qac (l := gW P.L.l ks) (dn := false) (fu := -1) (fa := -1) (size := 100) (most := 5) (by rw [HO.out]; exact he)
    rw [HO.out] at h
    exact h⟩
   have hl0 : (Q.es.length : Int) = 0 := by rw [HEN.out]; rfl
   go_wp2_with (first
 |((with_reducible refine aN (N := 7) rfl ?_);
   refine aX rfl H (cs := [.slice none 0 0, .bool false, .int .i64 0, .int .i64 0, .int .i64 0, .int .u64 0, .int .u64 0, .bool false, .slice none 0 0, .int .i64 0]) (t := 33) ?hr ?_;
   (case hr => first | (go_simp; done) | (go_simp; rfl));
   intro ga QT n_;
   simp only [Act.put, zA, zZ, zS];
   clear H c_d z_d c_q;
   have H := n_;
   clear n_;
   have c_a := H.out.cell (g := ga) aH;
   have z_a := H.out.frozen (g := ga) aH;
   have c_d := H.out.cell (g := gd) mem3;
   have c_q := H.out.cell (g := gq) bM)
 |((with_reducible refine aK (t := 33) (p := 7) rfl ?_);
   refine aV (rs1 := [box ga [.slice A1 Q.L.l.length c1, .bool Q.L.dn, .int .i64 Q.L.fu, .int .i64 Q.L.fa, .int .i64 Q.L.size, .int .u64 Q.L.fr, .int .u64 Q.L.nx, .bool Q.L.br, .slice B1 Q.es.length d1, .int .i64 Q.most] 33, row k67 67 (.slice A1 (Q.L.l).length c1) Q.L.l, row k41 41 (.slice B1 (Q.es).length d1) Q.es, box gd [.slice Af (gW P.L.l ks).length cf, .bool false, .int .i64 (-1), .int .i64 (-1)] 27, box gq [.slice A P.L.l.length c, .bool P.L.dn, .int .i64 P.L.fu, .int .i64 P.L.fa, .int .i64 P.L.size, .int .u64 P.L.fr, .int .u64 P.L.nx, .bool P.L.br, .slice B P.es.length d, .int .i64 P.most] 33]) rfl (t := 33) (p := 7) rfl rfl ?hr (H1 := (Sep.set0 (Sep.set0 (Sep.set0 (Sep.set0 (Sep.set0 (Sep.set0 (Sep.set0 (Sep.set0 (Sep.set0 (Sep.set0 H.out 0 (.slice A1 Q.L.l.length c1) rfl) 1 (.bool Q.L.dn) rfl) 2 (.int .i64 Q.L.fu) rfl) 3 (.int .i64 Q.L.fa) rfl) 4 (.int .i64 Q.L.size) rfl) 5 (.int .u64 Q.L.fr) rfl) 6 (.int .u64 Q.L.nx) rfl) 7 (.bool Q.L.br) rfl) 8 (.slice B1 Q.es.length d1) rfl) 9 (.int .i64 Q.most) rfl)) ?_;
   (case hr => first | (go_simp; done) | (go_simp; rfl));
   intro XB n_;
   clear H c_a z_a c_d c_q;
   have H := n_;
   clear n_;
   have c_a := H.out.cell (g := ga) aH;
   have z_a := H.out.frozen (g := ga) aH;
   have c_d := H.out.cell (g := gd) mem3;
   have c_q := H.out.cell (g := gq) bM)
 |fail)
   try simp only [hl0]
   go_ret
   exact ⟨by first | rfl | simp, H.out.below⟩
 ·
  refine ((oU.calls A c P.L.l P.L.dn P.L.fu P.L.fa Ak ck ks [] false 0 0 6 _ (H.out.came HRp.out) HCp.out (H.out.came HRk.out) HCk.out (by rw [oU.f, if_neg hR])).mono ?_)
  rintro e TP ⟨v_, rfl, ho_, hb_⟩
  obtain ⟨Af, cf, eo_⟩ := Kd.dU ho_
  subst eo_
  have n_ : aA (Sep w TP [row k67 67 (.slice Af (([] : List S67)).length cf) (([] : List S67)), box gq [.slice A P.L.l.length c, .bool P.L.dn, .int .i64 P.L.fu, .int .i64 P.L.fa, .int .i64 P.L.size, .int .u64 P.L.fr, .int .u64 P.L.nx, .bool P.L.br, .slice B P.es.length d, .int .i64 P.most] 33]) := ⟨Sep.iL H.out hb_ ho_ kN⟩
  clear H c_q
  have H := n_
  clear n_
  have c_q := H.out.cell (g := gq) mem1
  clear ho_ hb_
  go_wp2_with (first
 |((with_reducible refine aN (N := 5) rfl ?_);
   refine aX rfl H (cs := [.slice none 0 0, .bool false, .int .i64 0, .int .i64 0]) (t := 27) ?hr ?_;
   (case hr => first | (go_simp; done) | (go_simp; rfl));
   intro gd YZ n_;
   simp only [Act.put, zA, zZ, zS];
   clear H c_q;
   have H := n_;
   clear n_;
   have c_d := H.out.cell (g := gd) aH;
   have z_d := H.out.frozen (g := gd) aH;
   have c_q := H.out.cell (g := gq) mem2)
 |((with_reducible refine aK (t := 27) (p := 5) rfl ?_);
   refine aV (rs1 := [box gd [.slice Af ([] : List S67).length cf, .bool false, .int .i64 0, .int .i64 0] 27, row k67 67 (.slice Af (([] : List S67)).length cf) (([] : List S67)), box gq [.slice A P.L.l.length c, .bool P.L.dn, .int .i64 P.L.fu, .int .i64 P.L.fa, .int .i64 P.L.size, .int .u64 P.L.fr, .int .u64 P.L.nx, .bool P.L.br, .slice B P.es.length d, .int .i64 P.most] 33]) rfl (t := 27) (p := 5) rfl rfl ?hr (H1 := (Sep.set0 (Sep.set0 (Sep.set0 (Sep.set0 H.out 0 (.slice Af ([] : List S67).length cf) rfl) 1 (.bool false) rfl) 2 (.int .i64 0) rfl) 3 (.int .i64 0) rfl)) ?_;
   (case hr => first | (go_simp; done) | (go_simp; rfl));
   intro Y0 n_;
   clear H c_d z_d c_q;
   have H := n_;
   clear n_;
   have c_d := H.out.cell (g := gd) aH;
   have z_d := H.out.frozen (g := gd) aH;
   have c_q := H.out.cell (g := gq) mem2)
 |fail)
  go_ret
  exact ⟨rfl, H.out.below⟩
end Go.Proofs.YtanonhipicoigaaGreatDoor.U
