import Derived.BigRegion
import Derived.LoopN
import Derived.Deep.DeepCutAuto
import Derived.Test.YtanonhipicoigaaGreatDoorZQbi
import Derived.Test.YtanonhipicoigaaGreatDoorZQau
import Derived.Test.YtanonhipicoigaaGreatDoorZQag
set_option linter.unusedVariables false
set_option linter.unusedSimpArgs false
namespace Go.Proofs.YtanonhipicoigaaGreatDoor.U
open Go.RowKit Go.Proofs.YW.PrintWords Go.Proofs.YW.PrintLast Go.Proofs.YW.PrintMore Go.Proofs.YtanonhipicoigaaGreatDoor.Sp Go.Proofs.YtanonhipicoigaaGreatDoor.eP
set_option maxHeartbeats 1600000 in
set_option maxRecDepth 100000 in
theorem X6 (A : Option Addr) (c : Nat) (B : Option Addr) (d : Nat) (Q : Qu) (w : World) (hr : Kd.C k67 w A Q.L.l.length Q.L.l) (hc : Q.L.l.length ≤ c) (hre : Kd.C k41 w B Q.es.length Q.es) (hce : Q.es.length ≤ d) (hG : Gl w) (h0 : 0 ≤ Q.L.fr) (hnx : 0 ≤ Q.L.nx) (hnx2 : Q.L.nx < 18446744073709551616) :
  Calls Tryz.prog 12 #[.agg (qc A c B d Q).toArray] w fun e w' => e = .returned (.bool true) ∧ Below w.heap.size w w' := by
 have HRp := aA.mk hr
 have HCp := aA.mk hc
 have HRe := aA.mk hre
 have HCe := aA.mk hce
 have HG := aA.mk hG
 have HF := aA.mk h0
 have HN0 := aA.mk hnx
 have HN1 := aA.mk hnx2
 have HL := aA.mk (fun A c B d w hr hc hre hce hG => sF A c B d Q w hr hc hre hce hG h0 hnx hnx2)
 clear hr hc hre hce hG h0 hnx hnx2
 simp only [qc, lgc, List.cons_append, List.nil_append]
 have H := aA.mk (Sep.start w)
 go_enter Tryz.func12, Tryz.ntmps12
 go_wp2_with (first
 |((with_reducible refine aN (N := 1) rfl ?_);
   refine aX rfl H (cs := [.slice A Q.L.l.length c, .bool Q.L.dn, .int .i64 Q.L.fu, .int .i64 Q.L.fa, .int .i64 Q.L.size, .int .u64 Q.L.fr, .int .u64 Q.L.nx, .bool Q.L.br, .slice B Q.es.length d, .int .i64 Q.most]) (t := 33) ?hr ?_;
   (case hr => first | (go_simp; done) | (go_simp; rfl));
   intro gq wd1 n_;
   simp only [Act.put, zA, zZ, zS];
   clear H;
   have H := n_;
   clear n_;
   have c_q := H.out.cell (g := gq) aH)
 |fail)
 refine ((wL _ (HG.out.below H.out.below)).mono ?_)
 rintro e wd2 ⟨rfl, hb_⟩
 have n_ : aA (Sep w wd2 [box gq [.slice A Q.L.l.length c, .bool Q.L.dn, .int .i64 Q.L.fu, .int .i64 Q.L.fa, .int .i64 Q.L.size, .int .u64 Q.L.fr, .int .u64 Q.L.nx, .bool Q.L.br, .slice B Q.es.length d, .int .i64 Q.most] 33]) := ⟨H.out.step hb_⟩
 clear H c_q
 have H := n_
 clear n_
 have c_q := H.out.cell (g := gq) aH
 clear hb_
 go_wp2_with fail
 by_cases hz : (gU Q).2 = 0
 ·
  obtain ⟨x, Qa, h1, h2, hok, hL, hx0, hx1, h3, h4⟩ := qai HF.out hz
  have HL2 := aA.mk (fun A c B d w hr hc hre hce hG => sF A c B d Qa w hr hc hre hce hG (by rw [hL]; exact HF.out) (by rw [hL]; exact HN0.out) (by rw [hL]; exact HN1.out))
  have HR3 := aA.mk (fun A c B d w hr hc hre hce hG => XO A c B d Qa x.f0 w hr hc hre hce hG (by rw [hL]; exact HF.out) (by rw [hL]; exact HN0.out) (by rw [hL]; exact HN1.out) hx0 (by have := HN1.out; omega))
  rw [h1, h2] at HL
  rw [h3] at HR3
  have HSM : aA (Q.L.l.length ≤ 64 ∧ Q.es.length ≤ 1024) := ⟨jV hok.1.1, hok.2.2.2.1⟩
  obtain ⟨Qb, eb, hb⟩ : ∃ Qb eb, gU Qa = (Qb, eb) := ⟨_, _, rfl⟩
  obtain ⟨F, hF⟩ : ∃ F, iI Qa = F := ⟨_, rfl⟩
  rw [hb, hF] at HL2
  rw [hb, hF] at h4
  have H4 := aA.mk h4
  dsimp only at HL HL2 HR3
  clear h1 h2 hok hL hx0 hx1 h3 h4 hb hF hz
  refine ((HL.out _ _ _ _ _ (H.out.came HRp.out) HCp.out (H.out.came HRe.out) HCe.out (HG.out.below H.out.below)).mono ?_)
  rintro e wd3 ⟨A1, c1, B1, d1, rfl, HJ⟩
  have n_ : aA (Sep w wd3 [row k67 67 (.slice A1 (Qa.L.l).length c1) Qa.L.l, row k41 41 (.slice B1 (Qa.es).length d1) Qa.es, box gq [.slice A Q.L.l.length c, .bool Q.L.dn, .int .i64 Q.L.fu, .int .i64 Q.L.fa, .int .i64 Q.L.size, .int .u64 Q.L.fr, .int .u64 Q.L.nx, .bool Q.L.br, .slice B Q.es.length d, .int .i64 Q.most] 33]) := ⟨dI H.out HJ.out⟩
  clear H c_q
  have H := n_
  clear n_
  have c_q := H.out.cell (g := gq) mem2
  clear HJ
  simp only [qc, lgc, List.cons_append, List.nil_append]
  go_wp2_with (first
 |((with_reducible refine aN (N := 3) rfl ?_);
   refine aX rfl H (cs := [.slice none 0 0, .bool false, .int .i64 0, .int .i64 0, .int .i64 0, .int .u64 0, .int .u64 0, .bool false, .slice none 0 0, .int .i64 0]) (t := 33) ?hr ?_;
   (case hr => first | (go_simp; done) | (go_simp; rfl));
   intro ga wd4 n_;
   simp only [Act.put, zA, zZ, zS];
   clear H c_q;
   have H := n_;
   clear n_;
   have c_a := H.out.cell (g := ga) aH;
   have z_a := H.out.frozen (g := ga) aH;
   have c_q := H.out.cell (g := gq) mem3)
 |((with_reducible refine aN (N := 4) rfl ?_);
   refine aX rfl H (cs := [.int .u64 0, .string ⟨#[]⟩, .bool false]) (t := 41) ?hr ?_;
   (case hr => first | (go_simp; done) | (go_simp; rfl));
   intro gx wd5 n_;
   simp only [Act.put, zA, zZ, zS];
   clear H c_a z_a c_q;
   have H := n_;
   clear n_;
   have c_x := H.out.cell (g := gx) aH;
   have z_x := H.out.frozen (g := gx) aH;
   have c_a := H.out.cell (g := ga) mem1;
   have z_a := H.out.frozen (g := ga) mem1;
   have c_q := H.out.cell (g := gq) bM)
 |((with_reducible refine aK (t := 33) (p := 3) rfl ?_);
   refine aV (rs1 := [box gx [.int .u64 0, .string ⟨#[]⟩, .bool false] 41, box ga [.slice A1 Qa.L.l.length c1, .bool Qa.L.dn, .int .i64 Qa.L.fu, .int .i64 Qa.L.fa, .int .i64 Qa.L.size, .int .u64 Qa.L.fr, .int .u64 Qa.L.nx, .bool Qa.L.br, .slice B1 Qa.es.length d1, .int .i64 Qa.most] 33, row k67 67 (.slice A1 (Qa.L.l).length c1) Qa.L.l, row k41 41 (.slice B1 (Qa.es).length d1) Qa.es, box gq [.slice A Q.L.l.length c, .bool Q.L.dn, .int .i64 Q.L.fu, .int .i64 Q.L.fa, .int .i64 Q.L.size, .int .u64 Q.L.fr, .int .u64 Q.L.nx, .bool Q.L.br, .slice B Q.es.length d, .int .i64 Q.most] 33]) rfl (t := 33) (p := 3) rfl rfl ?hr (H1 := (Sep.set1 (Sep.set1 (Sep.set1 (Sep.set1 (Sep.set1 (Sep.set1 (Sep.set1 (Sep.set1 (Sep.set1 (Sep.set1 H.out 0 (.slice A1 Qa.L.l.length c1) rfl) 1 (.bool Qa.L.dn) rfl) 2 (.int .i64 Qa.L.fu) rfl) 3 (.int .i64 Qa.L.fa) rfl) 4 (.int .i64 Qa.L.size) rfl) 5 (.int .u64 Qa.L.fr) rfl) 6 (.int .u64 Qa.L.nx) rfl) 7 (.bool Qa.L.br) rfl) 8 (.slice B1 Qa.es.length d1) rfl) 9 (.int .i64 Qa.most) rfl)) ?_;
   (case hr => first | (go_simp; done) | (go_simp; rfl));
   intro wd6 n_;
   clear H c_x z_x c_a z_a c_q;
   have H := n_;
   clear n_;
   have c_x := H.out.cell (g := gx) aH;
   have z_x := H.out.frozen (g := gx) aH;
   have c_a := H.out.cell (g := ga) mem1;
   have z_a := H.out.frozen (g := ga) mem1;
   have c_q := H.out.cell (g := gq) bM)
 |((with_reducible refine aK (t := 41) (p := 4) rfl ?_);
   refine aV (rs1 := [box gx [.int .u64 x.f0, .string x.f1, .bool true] 41, box ga [.slice A1 Qa.L.l.length c1, .bool Qa.L.dn, .int .i64 Qa.L.fu, .int .i64 Qa.L.fa, .int .i64 Qa.L.size, .int .u64 Qa.L.fr, .int .u64 Qa.L.nx, .bool Qa.L.br, .slice B1 Qa.es.length d1, .int .i64 Qa.most] 33, row k67 67 (.slice A1 (Qa.L.l).length c1) Qa.L.l, row k41 41 (.slice B1 (Qa.es).length d1) Qa.es, box gq [.slice A Q.L.l.length c, .bool Q.L.dn, .int .i64 Q.L.fu, .int .i64 Q.L.fa, .int .i64 Q.L.size, .int .u64 Q.L.fr, .int .u64 Q.L.nx, .bool Q.L.br, .slice B Q.es.length d, .int .i64 Q.most] 33]) rfl (t := 41) (p := 4) rfl rfl ?hr (H1 := (Sep.set0 (Sep.set0 (Sep.set0 H.out 0 (.int .u64 x.f0) rfl) 1 (.string x.f1) rfl) 2 (.bool true) rfl)) ?_;
   (case hr => first | (go_simp; done) | (go_simp; rfl));
   intro wd7 n_;
   clear H c_x z_x c_a z_a c_q;
   have H := n_;
   clear n_;
   have c_x := H.out.cell (g := gx) aH;
   have z_x := H.out.frozen (g := gx) aH;
   have c_a := H.out.cell (g := ga) mem1;
   have z_a := H.out.frozen (g := ga) mem1;
   have c_q := H.out.cell (g := gq) bM)
 |fail)
  refine ((HL2.out _ _ _ _ _ (H.out.reads mem2).2.2 (H.out.reads mem2).2.1 (H.out.reads mem3).2.2 (H.out.reads mem3).2.1 (HG.out.below H.out.below)).mono ?_)
  rintro e wd8 ⟨A2, c2, B2, d2, rfl, HJ⟩
  have n_ : aA (Sep w wd8 [row k67 67 (.slice A2 (Qb.L.l).length c2) Qb.L.l, row k41 41 (.slice B2 (Qb.es).length d2) Qb.es, box gx [.int .u64 x.f0, .string x.f1, .bool true] 41, box ga [.slice A1 Qa.L.l.length c1, .bool Qa.L.dn, .int .i64 Qa.L.fu, .int .i64 Qa.L.fa, .int .i64 Qa.L.size, .int .u64 Qa.L.fr, .int .u64 Qa.L.nx, .bool Qa.L.br, .slice B1 Qa.es.length d1, .int .i64 Qa.most] 33, row k67 67 (.slice A1 (Qa.L.l).length c1) Qa.L.l, row k41 41 (.slice B1 (Qa.es).length d1) Qa.es, box gq [.slice A Q.L.l.length c, .bool Q.L.dn, .int .i64 Q.L.fu, .int .i64 Q.L.fa, .int .i64 Q.L.size, .int .u64 Q.L.fr, .int .u64 Q.L.nx, .bool Q.L.br, .slice B Q.es.length d, .int .i64 Q.most] 33]) := ⟨dI H.out HJ.out⟩
  clear H c_x z_x c_a z_a c_q
  have H := n_
  clear n_
  have c_x := H.out.cell (g := gx) mem2
  have z_x := H.out.frozen (g := gx) mem2
  have c_a := H.out.cell (g := ga) mem3
  have z_a := H.out.frozen (g := ga) mem3
  have c_q := H.out.cell (g := gq) jM
  clear HJ
  simp only [qc, lgc, List.cons_append, List.nil_append]
  go_wp2_with (first
 |((with_reducible refine aN (N := 6) rfl ?_);
   refine aX rfl H (cs := [.slice none 0 0, .bool false, .int .i64 0, .int .i64 0, .int .i64 0, .int .u64 0, .int .u64 0, .bool false, .slice none 0 0, .int .i64 0]) (t := 33) ?hr ?_;
   (case hr => first | (go_simp; done) | (go_simp; rfl));
   intro gb wd9 n_;
   simp only [Act.put, zA, zZ, zS];
   clear H c_x z_x c_a z_a c_q;
   have H := n_;
   clear n_;
   have c_b := H.out.cell (g := gb) aH;
   have z_b := H.out.frozen (g := gb) aH;
   have c_x := H.out.cell (g := gx) mem3;
   have c_a := H.out.cell (g := ga) bM;
   have c_q := H.out.cell (g := gq) jE)
 |((with_reducible refine aN (N := 7) rfl ?_);
   refine aX rfl H (cs := [.int .u64 0, .string ⟨#[]⟩, .bool false]) (t := 41) ?hr ?_;
   (case hr => first | (go_simp; done) | (go_simp; rfl));
   intro gy DC n_;
   simp only [Act.put, zA, zZ, zS];
   clear H c_b z_b c_x c_a c_q;
   have H := n_;
   clear n_;
   have c_y := H.out.cell (g := gy) aH;
   have z_y := H.out.frozen (g := gy) aH;
   have c_b := H.out.cell (g := gb) mem1;
   have z_b := H.out.frozen (g := gb) mem1;
   have c_x := H.out.cell (g := gx) bM;
   have c_a := H.out.cell (g := ga) dM;
   have c_q := H.out.cell (g := gq) oN)
 |((with_reducible refine aK (t := 33) (p := 6) rfl ?_);
   refine aV (rs1 := [box gy [.int .u64 0, .string ⟨#[]⟩, .bool false] 41, box gb [.slice A2 Qb.L.l.length c2, .bool Qb.L.dn, .int .i64 Qb.L.fu, .int .i64 Qb.L.fa, .int .i64 Qb.L.size, .int .u64 Qb.L.fr, .int .u64 Qb.L.nx, .bool Qb.L.br, .slice B2 Qb.es.length d2, .int .i64 Qb.most] 33, row k67 67 (.slice A2 (Qb.L.l).length c2) Qb.L.l, row k41 41 (.slice B2 (Qb.es).length d2) Qb.es, box gx [.int .u64 x.f0, .string x.f1, .bool true] 41, box ga [.slice A1 Qa.L.l.length c1, .bool Qa.L.dn, .int .i64 Qa.L.fu, .int .i64 Qa.L.fa, .int .i64 Qa.L.size, .int .u64 Qa.L.fr, .int .u64 Qa.L.nx, .bool Qa.L.br, .slice B1 Qa.es.length d1, .int .i64 Qa.most] 33, row k67 67 (.slice A1 (Qa.L.l).length c1) Qa.L.l, row k41 41 (.slice B1 (Qa.es).length d1) Qa.es, box gq [.slice A Q.L.l.length c, .bool Q.L.dn, .int .i64 Q.L.fu, .int .i64 Q.L.fa, .int .i64 Q.L.size, .int .u64 Q.L.fr, .int .u64 Q.L.nx, .bool Q.L.br, .slice B Q.es.length d, .int .i64 Q.most] 33]) rfl (t := 33) (p := 6) rfl rfl ?hr (H1 := (Sep.set1 (Sep.set1 (Sep.set1 (Sep.set1 (Sep.set1 (Sep.set1 (Sep.set1 (Sep.set1 (Sep.set1 (Sep.set1 H.out 0 (.slice A2 Qb.L.l.length c2) rfl) 1 (.bool Qb.L.dn) rfl) 2 (.int .i64 Qb.L.fu) rfl) 3 (.int .i64 Qb.L.fa) rfl) 4 (.int .i64 Qb.L.size) rfl) 5 (.int .u64 Qb.L.fr) rfl) 6 (.int .u64 Qb.L.nx) rfl) 7 (.bool Qb.L.br) rfl) 8 (.slice B2 Qb.es.length d2) rfl) 9 (.int .i64 Qb.most) rfl)) ?_;
   (case hr => first | (go_simp; done) | (go_simp; rfl));
   intro MO n_;
   clear H c_y z_y c_b z_b c_x c_a c_q;
   have H := n_;
   clear n_;
   have c_y := H.out.cell (g := gy) aH;
   have z_y := H.out.frozen (g := gy) aH;
   have c_b := H.out.cell (g := gb) mem1;
   have z_b := H.out.frozen (g := gb) mem1;
   have c_x := H.out.cell (g := gx) bM;
   have c_a := H.out.cell (g := ga) dM;
   have c_q := H.out.cell (g := gq) oN)
 |((with_reducible refine aK (t := 41) (p := 7) rfl ?_);
   refine aV (rs1 := [box gy [.int .u64 F.f0, .string F.f1, .bool F.f2] 41, box gb [.slice A2 Qb.L.l.length c2, .bool Qb.L.dn, .int .i64 Qb.L.fu, .int .i64 Qb.L.fa, .int .i64 Qb.L.size, .int .u64 Qb.L.fr, .int .u64 Qb.L.nx, .bool Qb.L.br, .slice B2 Qb.es.length d2, .int .i64 Qb.most] 33, row k67 67 (.slice A2 (Qb.L.l).length c2) Qb.L.l, row k41 41 (.slice B2 (Qb.es).length d2) Qb.es, box gx [.int .u64 x.f0, .string x.f1, .bool true] 41, box ga [.slice A1 Qa.L.l.length c1, .bool Qa.L.dn, .int .i64 Qa.L.fu, .int .i64 Qa.L.fa, .int .i64 Qa.L.size, .int .u64 Qa.L.fr, .int .u64 Qa.L.nx, .bool Qa.L.br, .slice B1 Qa.es.length d1, .int .i64 Qa.most] 33, row k67 67 (.slice A1 (Qa.L.l).length c1) Qa.L.l, row k41 41 (.slice B1 (Qa.es).length d1) Qa.es, box gq [.slice A Q.L.l.length c, .bool Q.L.dn, .int .i64 Q.L.fu, .int .i64 Q.L.fa, .int .i64 Q.L.size, .int .u64 Q.L.fr, .int .u64 Q.L.nx, .bool Q.L.br, .slice B Q.es.length d, .int .i64 Q.most] 33]) rfl (t := 41) (p := 7) rfl rfl ?hr (H1 := (Sep.set0 (Sep.set0 (Sep.set0 H.out 0 (.int .u64 F.f0) rfl) 1 (.string F.f1) rfl) 2 (.bool F.f2) rfl)) ?_;
   (case hr => first | (go_simp; done) | (go_simp; rfl));
   intro yV n_;
   clear H c_y z_y c_b z_b c_x c_a c_q;
   have H := n_;
   clear n_;
   have c_y := H.out.cell (g := gy) aH;
   have z_y := H.out.frozen (g := gy) aH;
   have c_b := H.out.cell (g := gb) mem1;
   have z_b := H.out.frozen (g := gb) mem1;
   have c_x := H.out.cell (g := gx) bM;
   have c_a := H.out.cell (g := ga) dM;
   have c_q := H.out.cell (g := gq) oN)
 |fail)
  have n_ : aA (Sep w yV [box gy [.int .u64 F.f0, .string F.f1, .bool F.f2] 41, box gb [.slice A2 Qb.L.l.length c2, .bool Qb.L.dn, .int .i64 Qb.L.fu, .int .i64 Qb.L.fa, .int .i64 Qb.L.size, .int .u64 Qb.L.fr, .int .u64 Qb.L.nx, .bool Qb.L.br, .slice B2 Qb.es.length d2, .int .i64 Qb.most] 33, row k41 41 (.slice B2 (Qb.es).length d2) Qb.es, box gx [.int .u64 x.f0, .string x.f1, .bool true] 41, box ga [.slice A1 Qa.L.l.length c1, .bool Qa.L.dn, .int .i64 Qa.L.fu, .int .i64 Qa.L.fa, .int .i64 Qa.L.size, .int .u64 Qa.L.fr, .int .u64 Qa.L.nx, .bool Qa.L.br, .slice B1 Qa.es.length d1, .int .i64 Qa.most] 33, row k67 67 (.slice A1 (Qa.L.l).length c1) Qa.L.l, row k41 41 (.slice B1 (Qa.es).length d1) Qa.es, box gq [.slice A Q.L.l.length c, .bool Q.L.dn, .int .i64 Q.L.fu, .int .i64 Q.L.fa, .int .i64 Q.L.size, .int .u64 Q.L.fr, .int .u64 Q.L.nx, .bool Q.L.br, .slice B Q.es.length d, .int .i64 Q.most] 33]) := ⟨Sep.drop2 H.out⟩
  clear H c_y z_y c_b z_b c_x c_a c_q
  have H := n_
  clear n_
  have c_y := H.out.cell (g := gy) aH
  have z_y := H.out.frozen (g := gy) aH
  have c_b := H.out.cell (g := gb) mem1
  have z_b := H.out.frozen (g := gb) mem1
  have c_x := H.out.cell (g := gx) mem3
  have c_a := H.out.cell (g := ga) bM
  have c_q := H.out.cell (g := gq) jE
  have n_ : aA (Sep w yV [box gy [.int .u64 F.f0, .string F.f1, .bool F.f2] 41, box gb [.slice A2 Qb.L.l.length c2, .bool Qb.L.dn, .int .i64 Qb.L.fu, .int .i64 Qb.L.fa, .int .i64 Qb.L.size, .int .u64 Qb.L.fr, .int .u64 Qb.L.nx, .bool Qb.L.br, .slice B2 Qb.es.length d2, .int .i64 Qb.most] 33, box gx [.int .u64 x.f0, .string x.f1, .bool true] 41, box ga [.slice A1 Qa.L.l.length c1, .bool Qa.L.dn, .int .i64 Qa.L.fu, .int .i64 Qa.L.fa, .int .i64 Qa.L.size, .int .u64 Qa.L.fr, .int .u64 Qa.L.nx, .bool Qa.L.br, .slice B1 Qa.es.length d1, .int .i64 Qa.most] 33, row k67 67 (.slice A1 (Qa.L.l).length c1) Qa.L.l, row k41 41 (.slice B1 (Qa.es).length d1) Qa.es, box gq [.slice A Q.L.l.length c, .bool Q.L.dn, .int .i64 Q.L.fu, .int .i64 Q.L.fa, .int .i64 Q.L.size, .int .u64 Q.L.fr, .int .u64 Q.L.nx, .bool Q.L.br, .slice B Q.es.length d, .int .i64 Q.most] 33]) := ⟨Sep.drop2 H.out⟩
  clear H c_y z_y c_b z_b c_x c_a c_q
  have H := n_
  clear n_
  have c_y := H.out.cell (g := gy) aH
  have z_y := H.out.frozen (g := gy) aH
  have c_b := H.out.cell (g := gb) mem1
  have z_b := H.out.frozen (g := gb) mem1
  have c_x := H.out.cell (g := gx) mem2
  have c_a := H.out.cell (g := ga) mem3
  have c_q := H.out.cell (g := gq) jM
  refine ((HR3.out _ _ _ _ _ (H.out.reads bM).2.2 (H.out.reads bM).2.1 (H.out.reads dM).2.2 (H.out.reads dM).2.1 (HG.out.below H.out.below)).mono ?_)
  rintro e DF ⟨A3, c3, B3, d3, rfl, HJ⟩
  have n_ : aA (Sep w DF [row k67 67 (.slice A3 (Q.L.l).length c3) Q.L.l, row k41 41 (.slice B3 (Q.es).length d3) Q.es, box gy [.int .u64 F.f0, .string F.f1, .bool F.f2] 41, box gb [.slice A2 Qb.L.l.length c2, .bool Qb.L.dn, .int .i64 Qb.L.fu, .int .i64 Qb.L.fa, .int .i64 Qb.L.size, .int .u64 Qb.L.fr, .int .u64 Qb.L.nx, .bool Qb.L.br, .slice B2 Qb.es.length d2, .int .i64 Qb.most] 33, box gx [.int .u64 x.f0, .string x.f1, .bool true] 41, box ga [.slice A1 Qa.L.l.length c1, .bool Qa.L.dn, .int .i64 Qa.L.fu, .int .i64 Qa.L.fa, .int .i64 Qa.L.size, .int .u64 Qa.L.fr, .int .u64 Qa.L.nx, .bool Qa.L.br, .slice B1 Qa.es.length d1, .int .i64 Qa.most] 33, row k67 67 (.slice A1 (Qa.L.l).length c1) Qa.L.l, row k41 41 (.slice B1 (Qa.es).length d1) Qa.es, box gq [.slice A Q.L.l.length c, .bool Q.L.dn, .int .i64 Q.L.fu, .int .i64 Q.L.fa, .int .i64 Q.L.size, .int .u64 Q.L.fr, .int .u64 Q.L.nx, .bool Q.L.br, .slice B Q.es.length d, .int .i64 Q.most] 33]) := ⟨dI H.out HJ.out⟩
  clear H c_y z_y c_b z_b c_x c_a c_q
  have H := n_
  clear n_
  have c_y := H.out.cell (g := gy) mem2
  have z_y := H.out.frozen (g := gy) mem2
  have c_b := H.out.cell (g := gb) mem3
  have z_b := H.out.frozen (g := gb) mem3
  have c_x := H.out.cell (g := gx) bM
  have c_a := H.out.cell (g := ga) dM
  have c_q := H.out.cell (g := gq) oN
  clear HJ
  simp only [qc, lgc, List.cons_append, List.nil_append]
  go_wp2_with (first
 |((with_reducible refine aN (N := 9) rfl ?_);
   refine aX rfl H (cs := [.slice none 0 0, .bool false, .int .i64 0, .int .i64 0, .int .i64 0, .int .u64 0, .int .u64 0, .bool false, .slice none 0 0, .int .i64 0]) (t := 33) ?hr ?_;
   (case hr => first | (go_simp; done) | (go_simp; rfl));
   intro gc PE n_;
   simp only [Act.put, zA, zZ, zS];
   clear H c_y z_y c_b z_b c_x c_a c_q;
   have H := n_;
   clear n_;
   have c_c := H.out.cell (g := gc) aH;
   have z_c := H.out.frozen (g := gc) aH;
   have c_y := H.out.cell (g := gy) mem3;
   have c_b := H.out.cell (g := gb) bM;
   have c_x := H.out.cell (g := gx) dM;
   have c_a := H.out.cell (g := ga) jM;
   have c_q := H.out.cell (g := gq) F9)
 |((with_reducible refine aK (t := 33) (p := 9) rfl ?_);
   refine aV (rs1 := [box gc [.slice A3 Q.L.l.length c3, .bool Q.L.dn, .int .i64 Q.L.fu, .int .i64 Q.L.fa, .int .i64 Q.L.size, .int .u64 Q.L.fr, .int .u64 Q.L.nx, .bool Q.L.br, .slice B3 Q.es.length d3, .int .i64 Q.most] 33, row k67 67 (.slice A3 (Q.L.l).length c3) Q.L.l, row k41 41 (.slice B3 (Q.es).length d3) Q.es, box gy [.int .u64 F.f0, .string F.f1, .bool F.f2] 41, box gb [.slice A2 Qb.L.l.length c2, .bool Qb.L.dn, .int .i64 Qb.L.fu, .int .i64 Qb.L.fa, .int .i64 Qb.L.size, .int .u64 Qb.L.fr, .int .u64 Qb.L.nx, .bool Qb.L.br, .slice B2 Qb.es.length d2, .int .i64 Qb.most] 33, box gx [.int .u64 x.f0, .string x.f1, .bool true] 41, box ga [.slice A1 Qa.L.l.length c1, .bool Qa.L.dn, .int .i64 Qa.L.fu, .int .i64 Qa.L.fa, .int .i64 Qa.L.size, .int .u64 Qa.L.fr, .int .u64 Qa.L.nx, .bool Qa.L.br, .slice B1 Qa.es.length d1, .int .i64 Qa.most] 33, row k67 67 (.slice A1 (Qa.L.l).length c1) Qa.L.l, row k41 41 (.slice B1 (Qa.es).length d1) Qa.es, box gq [.slice A Q.L.l.length c, .bool Q.L.dn, .int .i64 Q.L.fu, .int .i64 Q.L.fa, .int .i64 Q.L.size, .int .u64 Q.L.fr, .int .u64 Q.L.nx, .bool Q.L.br, .slice B Q.es.length d, .int .i64 Q.most] 33]) rfl (t := 33) (p := 9) rfl rfl ?hr (H1 := (Sep.set0 (Sep.set0 (Sep.set0 (Sep.set0 (Sep.set0 (Sep.set0 (Sep.set0 (Sep.set0 (Sep.set0 (Sep.set0 H.out 0 (.slice A3 Q.L.l.length c3) rfl) 1 (.bool Q.L.dn) rfl) 2 (.int .i64 Q.L.fu) rfl) 3 (.int .i64 Q.L.fa) rfl) 4 (.int .i64 Q.L.size) rfl) 5 (.int .u64 Q.L.fr) rfl) 6 (.int .u64 Q.L.nx) rfl) 7 (.bool Q.L.br) rfl) 8 (.slice B3 Q.es.length d3) rfl) 9 (.int .i64 Q.most) rfl)) ?_;
   (case hr => first | (go_simp; done) | (go_simp; rfl));
   intro DI n_;
   clear H c_c z_c c_y c_b c_x c_a c_q;
   have H := n_;
   clear n_;
   have c_c := H.out.cell (g := gc) aH;
   have z_c := H.out.frozen (g := gc) aH;
   have c_y := H.out.cell (g := gy) mem3;
   have c_b := H.out.cell (g := gb) bM;
   have c_x := H.out.cell (g := gx) dM;
   have c_a := H.out.cell (g := ga) jM;
   have c_q := H.out.cell (g := gq) F9)
 |fail)
  have n_ : aA (Sep w DI [box gc [.slice A3 Q.L.l.length c3, .bool Q.L.dn, .int .i64 Q.L.fu, .int .i64 Q.L.fa, .int .i64 Q.L.size, .int .u64 Q.L.fr, .int .u64 Q.L.nx, .bool Q.L.br, .slice B3 Q.es.length d3, .int .i64 Q.most] 33, row k67 67 (.slice A3 (Q.L.l).length c3) Q.L.l, row k41 41 (.slice B3 (Q.es).length d3) Q.es, box gy [.int .u64 F.f0, .string F.f1, .bool F.f2] 41, box gb [.slice A2 Qb.L.l.length c2, .bool Qb.L.dn, .int .i64 Qb.L.fu, .int .i64 Qb.L.fa, .int .i64 Qb.L.size, .int .u64 Qb.L.fr, .int .u64 Qb.L.nx, .bool Qb.L.br, .slice B2 Qb.es.length d2, .int .i64 Qb.most] 33, box gx [.int .u64 x.f0, .string x.f1, .bool true] 41, box ga [.slice A1 Qa.L.l.length c1, .bool Qa.L.dn, .int .i64 Qa.L.fu, .int .i64 Qa.L.fa, .int .i64 Qa.L.size, .int .u64 Qa.L.fr, .int .u64 Qa.L.nx, .bool Qa.L.br, .slice B1 Qa.es.length d1, .int .i64 Qa.most] 33, row k41 41 (.slice B1 (Qa.es).length d1) Qa.es, box gq [.slice A Q.L.l.length c, .bool Q.L.dn, .int .i64 Q.L.fu, .int .i64 Q.L.fa, .int .i64 Q.L.size, .int .u64 Q.L.fr, .int .u64 Q.L.nx, .bool Q.L.br, .slice B Q.es.length d, .int .i64 Q.most] 33]) := ⟨Sep.F8 H.out⟩
  clear H c_c z_c c_y c_b c_x c_a c_q
  have H := n_
  clear n_
  have c_c := H.out.cell (g := gc) aH
  have z_c := H.out.frozen (g := gc) aH
  have c_y := H.out.cell (g := gy) mem3
  have c_b := H.out.cell (g := gb) bM
  have c_x := H.out.cell (g := gx) dM
  have c_a := H.out.cell (g := ga) jM
  have c_q := H.out.cell (g := gq) oN
  have n_ : aA (Sep w DI [box gc [.slice A3 Q.L.l.length c3, .bool Q.L.dn, .int .i64 Q.L.fu, .int .i64 Q.L.fa, .int .i64 Q.L.size, .int .u64 Q.L.fr, .int .u64 Q.L.nx, .bool Q.L.br, .slice B3 Q.es.length d3, .int .i64 Q.most] 33, row k67 67 (.slice A3 (Q.L.l).length c3) Q.L.l, row k41 41 (.slice B3 (Q.es).length d3) Q.es, box gy [.int .u64 F.f0, .string F.f1, .bool F.f2] 41, box gb [.slice A2 Qb.L.l.length c2, .bool Qb.L.dn, .int .i64 Qb.L.fu, .int .i64 Qb.L.fa, .int .i64 Qb.L.size, .int .u64 Qb.L.fr, .int .u64 Qb.L.nx, .bool Qb.L.br, .slice B2 Qb.es.length d2, .int .i64 Qb.most] 33, box gx [.int .u64 x.f0, .string x.f1, .bool true] 41, box ga [.slice A1 Qa.L.l.length c1, .bool Qa.L.dn, .int .i64 Qa.L.fu, .int .i64 Qa.L.fa, .int .i64 Qa.L.size, .int .u64 Qa.L.fr, .int .u64 Qa.L.nx, .bool Qa.L.br, .slice B1 Qa.es.length d1, .int .i64 Qa.most] 33, box gq [.slice A Q.L.l.length c, .bool Q.L.dn, .int .i64 Q.L.fu, .int .i64 Q.L.fa, .int .i64 Q.L.size, .int .u64 Q.L.fr, .int .u64 Q.L.nx, .bool Q.L.br, .slice B Q.es.length d, .int .i64 Q.most] 33]) := ⟨Sep.F8 H.out⟩
  clear H c_c z_c c_y c_b c_x c_a c_q
  have H := n_
  clear n_
  have c_c := H.out.cell (g := gc) aH
  have z_c := H.out.frozen (g := gc) aH
  have c_y := H.out.cell (g := gy) mem3
  have c_b := H.out.cell (g := gb) bM
  have c_x := H.out.cell (g := gx) dM
  have c_a := H.out.cell (g := ga) jM
  have c_q := H.out.cell (g := gq) jE
  refine ((HL.out _ _ _ _ _ (H.out.reads mem1).2.2 (H.out.reads mem1).2.1 (H.out.reads mem2).2.2 (H.out.reads mem2).2.1 (HG.out.below H.out.below)).mono ?_)
  rintro e QT ⟨A4, c4, B4, d4, rfl, HJ⟩
  have n_ : aA (Sep w QT [row k67 67 (.slice A4 (Qa.L.l).length c4) Qa.L.l, row k41 41 (.slice B4 (Qa.es).length d4) Qa.es, box gc [.slice A3 Q.L.l.length c3, .bool Q.L.dn, .int .i64 Q.L.fu, .int .i64 Q.L.fa, .int .i64 Q.L.size, .int .u64 Q.L.fr, .int .u64 Q.L.nx, .bool Q.L.br, .slice B3 Q.es.length d3, .int .i64 Q.most] 33, row k67 67 (.slice A3 (Q.L.l).length c3) Q.L.l, row k41 41 (.slice B3 (Q.es).length d3) Q.es, box gy [.int .u64 F.f0, .string F.f1, .bool F.f2] 41, box gb [.slice A2 Qb.L.l.length c2, .bool Qb.L.dn, .int .i64 Qb.L.fu, .int .i64 Qb.L.fa, .int .i64 Qb.L.size, .int .u64 Qb.L.fr, .int .u64 Qb.L.nx, .bool Qb.L.br, .slice B2 Qb.es.length d2, .int .i64 Qb.most] 33, box gx [.int .u64 x.f0, .string x.f1, .bool true] 41, box ga [.slice A1 Qa.L.l.length c1, .bool Qa.L.dn, .int .i64 Qa.L.fu, .int .i64 Qa.L.fa, .int .i64 Qa.L.size, .int .u64 Qa.L.fr, .int .u64 Qa.L.nx, .bool Qa.L.br, .slice B1 Qa.es.length d1, .int .i64 Qa.most] 33, box gq [.slice A Q.L.l.length c, .bool Q.L.dn, .int .i64 Q.L.fu, .int .i64 Q.L.fa, .int .i64 Q.L.size, .int .u64 Q.L.fr, .int .u64 Q.L.nx, .bool Q.L.br, .slice B Q.es.length d, .int .i64 Q.most] 33]) := ⟨dI H.out HJ.out⟩
  clear H c_c z_c c_y c_b c_x c_a c_q
  have H := n_
  clear n_
  have c_c := H.out.cell (g := gc) mem2
  have z_c := H.out.frozen (g := gc) mem2
  have c_y := H.out.cell (g := gy) dM
  have c_b := H.out.cell (g := gb) jM
  have c_x := H.out.cell (g := gx) jE
  have c_a := H.out.cell (g := ga) oN
  have c_q := H.out.cell (g := gq) F9
  clear HJ
  simp only [qc, lgc, List.cons_append, List.nil_append]
  by_cases he : eb = 0
  ·
   have h5 := H4.out he
   try simp only at h5
   subst he
   have hlt : ¬ F.f0 ≤ x.f0 := by omega
   have hld : decide (F.f0 ≤ x.f0) = false := by simpa using hlt
   have hln : ((Qb.es.length : Int) != (Q.es.length : Int)) = false := by simp [h5.2]
   go_wp2_with (first
 |((with_reducible refine aN (N := 11) rfl ?_);
   refine aX rfl H (cs := [.slice none 0 0, .bool false, .int .i64 0, .int .i64 0, .int .i64 0, .int .u64 0, .int .u64 0, .bool false, .slice none 0 0, .int .i64 0]) (t := 33) ?hr ?_;
   (case hr => first | (go_simp; done) | (go_simp; rfl));
   intro gh XB n_;
   simp only [Act.put, zA, zZ, zS];
   clear H c_c z_c c_y c_b c_x c_a c_q;
   have H := n_;
   clear n_;
   have c_h := H.out.cell (g := gh) aH;
   have z_h := H.out.frozen (g := gh) aH;
   have c_c := H.out.cell (g := gc) mem3;
   have c_y := H.out.cell (g := gy) jM;
   have c_b := H.out.cell (g := gb) jE;
   have c_x := H.out.cell (g := gx) oN;
   have c_a := H.out.cell (g := ga) F9;
   have c_q := H.out.cell (g := gq) wO)
 |((with_reducible refine aN (N := 12) rfl ?_);
   refine aX rfl H (cs := [.int .u64 0, .string ⟨#[]⟩, .bool false]) (t := 41) ?hr ?_;
   (case hr => first | (go_simp; done) | (go_simp; rfl));
   intro gz TP n_;
   simp only [Act.put, zA, zZ, zS];
   clear H c_h z_h c_c c_y c_b c_x c_a c_q;
   have H := n_;
   clear n_;
   have c_z := H.out.cell (g := gz) aH;
   have z_z := H.out.frozen (g := gz) aH;
   have c_h := H.out.cell (g := gh) mem1;
   have z_h := H.out.frozen (g := gh) mem1;
   have c_c := H.out.cell (g := gc) bM;
   have c_y := H.out.cell (g := gy) jE;
   have c_b := H.out.cell (g := gb) oN;
   have c_x := H.out.cell (g := gx) F9;
   have c_a := H.out.cell (g := ga) wO;
   have c_q := H.out.cell (g := gq) LM)
 |((with_reducible refine aK (t := 33) (p := 11) rfl ?_);
   refine aV (rs1 := [box gz [.int .u64 0, .string ⟨#[]⟩, .bool false] 41, box gh [.slice A4 Qa.L.l.length c4, .bool Qa.L.dn, .int .i64 Qa.L.fu, .int .i64 Qa.L.fa, .int .i64 Qa.L.size, .int .u64 Qa.L.fr, .int .u64 Qa.L.nx, .bool Qa.L.br, .slice B4 Qa.es.length d4, .int .i64 Qa.most] 33, row k67 67 (.slice A4 (Qa.L.l).length c4) Qa.L.l, row k41 41 (.slice B4 (Qa.es).length d4) Qa.es, box gc [.slice A3 Q.L.l.length c3, .bool Q.L.dn, .int .i64 Q.L.fu, .int .i64 Q.L.fa, .int .i64 Q.L.size, .int .u64 Q.L.fr, .int .u64 Q.L.nx, .bool Q.L.br, .slice B3 Q.es.length d3, .int .i64 Q.most] 33, row k67 67 (.slice A3 (Q.L.l).length c3) Q.L.l, row k41 41 (.slice B3 (Q.es).length d3) Q.es, box gy [.int .u64 F.f0, .string F.f1, .bool F.f2] 41, box gb [.slice A2 Qb.L.l.length c2, .bool Qb.L.dn, .int .i64 Qb.L.fu, .int .i64 Qb.L.fa, .int .i64 Qb.L.size, .int .u64 Qb.L.fr, .int .u64 Qb.L.nx, .bool Qb.L.br, .slice B2 Qb.es.length d2, .int .i64 Qb.most] 33, box gx [.int .u64 x.f0, .string x.f1, .bool true] 41, box ga [.slice A1 Qa.L.l.length c1, .bool Qa.L.dn, .int .i64 Qa.L.fu, .int .i64 Qa.L.fa, .int .i64 Qa.L.size, .int .u64 Qa.L.fr, .int .u64 Qa.L.nx, .bool Qa.L.br, .slice B1 Qa.es.length d1, .int .i64 Qa.most] 33, box gq [.slice A Q.L.l.length c, .bool Q.L.dn, .int .i64 Q.L.fu, .int .i64 Q.L.fa, .int .i64 Q.L.size, .int .u64 Q.L.fr, .int .u64 Q.L.nx, .bool Q.L.br, .slice B Q.es.length d, .int .i64 Q.most] 33]) rfl (t := 33) (p := 11) rfl rfl ?hr (H1 := (Sep.set1 (Sep.set1 (Sep.set1 (Sep.set1 (Sep.set1 (Sep.set1 (Sep.set1 (Sep.set1 (Sep.set1 (Sep.set1 H.out 0 (.slice A4 Qa.L.l.length c4) rfl) 1 (.bool Qa.L.dn) rfl) 2 (.int .i64 Qa.L.fu) rfl) 3 (.int .i64 Qa.L.fa) rfl) 4 (.int .i64 Qa.L.size) rfl) 5 (.int .u64 Qa.L.fr) rfl) 6 (.int .u64 Qa.L.nx) rfl) 7 (.bool Qa.L.br) rfl) 8 (.slice B4 Qa.es.length d4) rfl) 9 (.int .i64 Qa.most) rfl)) ?_;
   (case hr => first | (go_simp; done) | (go_simp; rfl));
   intro YZ n_;
   clear H c_z z_z c_h z_h c_c c_y c_b c_x c_a c_q;
   have H := n_;
   clear n_;
   have c_z := H.out.cell (g := gz) aH;
   have z_z := H.out.frozen (g := gz) aH;
   have c_h := H.out.cell (g := gh) mem1;
   have z_h := H.out.frozen (g := gh) mem1;
   have c_c := H.out.cell (g := gc) bM;
   have c_y := H.out.cell (g := gy) jE;
   have c_b := H.out.cell (g := gb) oN;
   have c_x := H.out.cell (g := gx) F9;
   have c_a := H.out.cell (g := ga) wO;
   have c_q := H.out.cell (g := gq) LM)
 |((with_reducible refine aK (t := 41) (p := 12) rfl ?_);
   refine aV (rs1 := [box gz [.int .u64 x.f0, .string x.f1, .bool true] 41, box gh [.slice A4 Qa.L.l.length c4, .bool Qa.L.dn, .int .i64 Qa.L.fu, .int .i64 Qa.L.fa, .int .i64 Qa.L.size, .int .u64 Qa.L.fr, .int .u64 Qa.L.nx, .bool Qa.L.br, .slice B4 Qa.es.length d4, .int .i64 Qa.most] 33, row k67 67 (.slice A4 (Qa.L.l).length c4) Qa.L.l, row k41 41 (.slice B4 (Qa.es).length d4) Qa.es, box gc [.slice A3 Q.L.l.length c3, .bool Q.L.dn, .int .i64 Q.L.fu, .int .i64 Q.L.fa, .int .i64 Q.L.size, .int .u64 Q.L.fr, .int .u64 Q.L.nx, .bool Q.L.br, .slice B3 Q.es.length d3, .int .i64 Q.most] 33, row k67 67 (.slice A3 (Q.L.l).length c3) Q.L.l, row k41 41 (.slice B3 (Q.es).length d3) Q.es, box gy [.int .u64 F.f0, .string F.f1, .bool F.f2] 41, box gb [.slice A2 Qb.L.l.length c2, .bool Qb.L.dn, .int .i64 Qb.L.fu, .int .i64 Qb.L.fa, .int .i64 Qb.L.size, .int .u64 Qb.L.fr, .int .u64 Qb.L.nx, .bool Qb.L.br, .slice B2 Qb.es.length d2, .int .i64 Qb.most] 33, box gx [.int .u64 x.f0, .string x.f1, .bool true] 41, box ga [.slice A1 Qa.L.l.length c1, .bool Qa.L.dn, .int .i64 Qa.L.fu, .int .i64 Qa.L.fa, .int .i64 Qa.L.size, .int .u64 Qa.L.fr, .int .u64 Qa.L.nx, .bool Qa.L.br, .slice B1 Qa.es.length d1, .int .i64 Qa.most] 33, box gq [.slice A Q.L.l.length c, .bool Q.L.dn, .int .i64 Q.L.fu, .int .i64 Q.L.fa, .int .i64 Q.L.size, .int .u64 Q.L.fr, .int .u64 Q.L.nx, .bool Q.L.br, .slice B Q.es.length d, .int .i64 Q.most] 33]) rfl (t := 41) (p := 12) rfl rfl ?hr (H1 := (Sep.set0 (Sep.set0 (Sep.set0 H.out 0 (.int .u64 x.f0) rfl) 1 (.string x.f1) rfl) 2 (.bool true) rfl)) ?_;
   (case hr => first | (go_simp; done) | (go_simp; rfl));
   intro Y0 n_;
   clear H c_z z_z c_h z_h c_c c_y c_b c_x c_a c_q;
   have H := n_;
   clear n_;
   have c_z := H.out.cell (g := gz) aH;
   have z_z := H.out.frozen (g := gz) aH;
   have c_h := H.out.cell (g := gh) mem1;
   have z_h := H.out.frozen (g := gh) mem1;
   have c_c := H.out.cell (g := gc) bM;
   have c_y := H.out.cell (g := gy) jE;
   have c_b := H.out.cell (g := gb) oN;
   have c_x := H.out.cell (g := gx) F9;
   have c_a := H.out.cell (g := ga) wO;
   have c_q := H.out.cell (g := gq) LM)
 |fail)
   refine ((DW A3 c3 B3 d3 A c B d Q _ (H.out.reads dM).2.2 (H.out.reads dM).2.1 (H.out.reads jM).2.2 (H.out.reads jM).2.1 (H.out.came HRp.out) HCp.out (H.out.came HRe.out) HCe.out HSM.out.1 HSM.out.2).mono ?_)
   rintro e TQ ⟨rfl, hb_⟩
   have n_ : aA (Sep w TQ [box gz [.int .u64 x.f0, .string x.f1, .bool true] 41, box gh [.slice A4 Qa.L.l.length c4, .bool Qa.L.dn, .int .i64 Qa.L.fu, .int .i64 Qa.L.fa, .int .i64 Qa.L.size, .int .u64 Qa.L.fr, .int .u64 Qa.L.nx, .bool Qa.L.br, .slice B4 Qa.es.length d4, .int .i64 Qa.most] 33, row k67 67 (.slice A4 (Qa.L.l).length c4) Qa.L.l, row k41 41 (.slice B4 (Qa.es).length d4) Qa.es, box gc [.slice A3 Q.L.l.length c3, .bool Q.L.dn, .int .i64 Q.L.fu, .int .i64 Q.L.fa, .int .i64 Q.L.size, .int .u64 Q.L.fr, .int .u64 Q.L.nx, .bool Q.L.br, .slice B3 Q.es.length d3, .int .i64 Q.most] 33, row k67 67 (.slice A3 (Q.L.l).length c3) Q.L.l, row k41 41 (.slice B3 (Q.es).length d3) Q.es, box gy [.int .u64 F.f0, .string F.f1, .bool F.f2] 41, box gb [.slice A2 Qb.L.l.length c2, .bool Qb.L.dn, .int .i64 Qb.L.fu, .int .i64 Qb.L.fa, .int .i64 Qb.L.size, .int .u64 Qb.L.fr, .int .u64 Qb.L.nx, .bool Qb.L.br, .slice B2 Qb.es.length d2, .int .i64 Qb.most] 33, box gx [.int .u64 x.f0, .string x.f1, .bool true] 41, box ga [.slice A1 Qa.L.l.length c1, .bool Qa.L.dn, .int .i64 Qa.L.fu, .int .i64 Qa.L.fa, .int .i64 Qa.L.size, .int .u64 Qa.L.fr, .int .u64 Qa.L.nx, .bool Qa.L.br, .slice B1 Qa.es.length d1, .int .i64 Qa.most] 33, box gq [.slice A Q.L.l.length c, .bool Q.L.dn, .int .i64 Q.L.fu, .int .i64 Q.L.fa, .int .i64 Q.L.size, .int .u64 Q.L.fr, .int .u64 Q.L.nx, .bool Q.L.br, .slice B Q.es.length d, .int .i64 Q.most] 33]) := ⟨H.out.step hb_⟩
   clear H c_z z_z c_h z_h c_c c_y c_b c_x c_a c_q
   have H := n_
   clear n_
   have c_z := H.out.cell (g := gz) aH
   have z_z := H.out.frozen (g := gz) aH
   have c_h := H.out.cell (g := gh) mem1
   have z_h := H.out.frozen (g := gh) mem1
   have c_c := H.out.cell (g := gc) bM
   have c_y := H.out.cell (g := gy) jE
   have c_b := H.out.cell (g := gb) oN
   have c_x := H.out.cell (g := gx) F9
   have c_a := H.out.cell (g := ga) wO
   have c_q := H.out.cell (g := gq) LM
   clear hb_
   go_wp2_with fail
   go_ret
   exact ⟨by first | rfl | simp, H.out.below⟩
  ·
   have he2 : (eb == 0) = false := by simpa using he
   go_wp2_with (first
 |((with_reducible refine aN (N := 11) rfl ?_);
   refine aX rfl H (cs := [.slice none 0 0, .bool false, .int .i64 0, .int .i64 0, .int .i64 0, .int .u64 0, .int .u64 0, .bool false, .slice none 0 0, .int .i64 0]) (t := 33) ?hr ?_;
   (case hr => first | (go_simp; done) | (go_simp; rfl));
   intro gh qdI n_;
   simp only [Act.put, zA, zZ, zS];
   clear H c_c z_c c_y c_b c_x c_a c_q;
   have H := n_;
   clear n_;
   have c_h := H.out.cell (g := gh) aH;
   have z_h := H.out.frozen (g := gh) aH;
   have c_c := H.out.cell (g := gc) mem3;
   have c_y := H.out.cell (g := gy) jM;
   have c_b := H.out.cell (g := gb) jE;
   have c_x := H.out.cell (g := gx) oN;
   have c_a := H.out.cell (g := ga) F9;
   have c_q := H.out.cell (g := gq) wO)
 |((with_reducible refine aN (N := 12) rfl ?_);
   refine aX rfl H (cs := [.int .u64 0, .string ⟨#[]⟩, .bool false]) (t := 41) ?hr ?_;
   (case hr => first | (go_simp; done) | (go_simp; rfl));
   intro gz qeI n_;
   simp only [Act.put, zA, zZ, zS];
   clear H c_h z_h c_c c_y c_b c_x c_a c_q;
   have H := n_;
   clear n_;
   have c_z := H.out.cell (g := gz) aH;
   have z_z := H.out.frozen (g := gz) aH;
   have c_h := H.out.cell (g := gh) mem1;
   have z_h := H.out.frozen (g := gh) mem1;
   have c_c := H.out.cell (g := gc) bM;
   have c_y := H.out.cell (g := gy) jE;
   have c_b := H.out.cell (g := gb) oN;
   have c_x := H.out.cell (g := gx) F9;
   have c_a := H.out.cell (g := ga) wO;
   have c_q := H.out.cell (g := gq) LM)
 |((with_reducible refine aK (t := 33) (p := 11) rfl ?_);
   refine aV (rs1 := [box gz [.int .u64 0, .string ⟨#[]⟩, .bool false] 41, box gh [.slice A4 Qa.L.l.length c4, .bool Qa.L.dn, .int .i64 Qa.L.fu, .int .i64 Qa.L.fa, .int .i64 Qa.L.size, .int .u64 Qa.L.fr, .int .u64 Qa.L.nx, .bool Qa.L.br, .slice B4 Qa.es.length d4, .int .i64 Qa.most] 33, row k67 67 (.slice A4 (Qa.L.l).length c4) Qa.L.l, row k41 41 (.slice B4 (Qa.es).length d4) Qa.es, box gc [.slice A3 Q.L.l.length c3, .bool Q.L.dn, .int .i64 Q.L.fu, .int .i64 Q.L.fa, .int .i64 Q.L.size, .int .u64 Q.L.fr, .int .u64 Q.L.nx, .bool Q.L.br, .slice B3 Q.es.length d3, .int .i64 Q.most] 33, row k67 67 (.slice A3 (Q.L.l).length c3) Q.L.l, row k41 41 (.slice B3 (Q.es).length d3) Q.es, box gy [.int .u64 F.f0, .string F.f1, .bool F.f2] 41, box gb [.slice A2 Qb.L.l.length c2, .bool Qb.L.dn, .int .i64 Qb.L.fu, .int .i64 Qb.L.fa, .int .i64 Qb.L.size, .int .u64 Qb.L.fr, .int .u64 Qb.L.nx, .bool Qb.L.br, .slice B2 Qb.es.length d2, .int .i64 Qb.most] 33, box gx [.int .u64 x.f0, .string x.f1, .bool true] 41, box ga [.slice A1 Qa.L.l.length c1, .bool Qa.L.dn, .int .i64 Qa.L.fu, .int .i64 Qa.L.fa, .int .i64 Qa.L.size, .int .u64 Qa.L.fr, .int .u64 Qa.L.nx, .bool Qa.L.br, .slice B1 Qa.es.length d1, .int .i64 Qa.most] 33, box gq [.slice A Q.L.l.length c, .bool Q.L.dn, .int .i64 Q.L.fu, .int .i64 Q.L.fa, .int .i64 Q.L.size, .int .u64 Q.L.fr, .int .u64 Q.L.nx, .bool Q.L.br, .slice B Q.es.length d, .int .i64 Q.most] 33]) rfl (t := 33) (p := 11) rfl rfl ?hr (H1 := (Sep.set1 (Sep.set1 (Sep.set1 (Sep.set1 (Sep.set1 (Sep.set1 (Sep.set1 (Sep.set1 (Sep.set1 (Sep.set1 H.out 0 (.slice A4 Qa.L.l.length c4) rfl) 1 (.bool Qa.L.dn) rfl) 2 (.int .i64 Qa.L.fu) rfl) 3 (.int .i64 Qa.L.fa) rfl) 4 (.int .i64 Qa.L.size) rfl) 5 (.int .u64 Qa.L.fr) rfl) 6 (.int .u64 Qa.L.nx) rfl) 7 (.bool Qa.L.br) rfl) 8 (.slice B4 Qa.es.length d4) rfl) 9 (.int .i64 Qa.most) rfl)) ?_;
   (case hr => first | (go_simp; done) | (go_simp; rfl));
   intro qeJ n_;
   clear H c_z z_z c_h z_h c_c c_y c_b c_x c_a c_q;
   have H := n_;
   clear n_;
   have c_z := H.out.cell (g := gz) aH;
   have z_z := H.out.frozen (g := gz) aH;
   have c_h := H.out.cell (g := gh) mem1;
   have z_h := H.out.frozen (g := gh) mem1;
   have c_c := H.out.cell (g := gc) bM;
   have c_y := H.out.cell (g := gy) jE;
   have c_b := H.out.cell (g := gb) oN;
   have c_x := H.out.cell (g := gx) F9;
   have c_a := H.out.cell (g := ga) wO;
   have c_q := H.out.cell (g := gq) LM)
 |((with_reducible refine aK (t := 41) (p := 12) rfl ?_);
   refine aV (rs1 := [box gz [.int .u64 x.f0, .string x.f1, .bool true] 41, box gh [.slice A4 Qa.L.l.length c4, .bool Qa.L.dn, .int .i64 Qa.L.fu, .int .i64 Qa.L.fa, .int .i64 Qa.L.size, .int .u64 Qa.L.fr, .int .u64 Qa.L.nx, .bool Qa.L.br, .slice B4 Qa.es.length d4, .int .i64 Qa.most] 33, row k67 67 (.slice A4 (Qa.L.l).length c4) Qa.L.l, row k41 41 (.slice B4 (Qa.es).length d4) Qa.es, box gc [.slice A3 Q.L.l.length c3, .bool Q.L.dn, .int .i64 Q.L.fu, .int .i64 Q.L.fa, .int .i64 Q.L.size, .int .u64 Q.L.fr, .int .u64 Q.L.nx, .bool Q.L.br, .slice B3 Q.es.length d3, .int .i64 Q.most] 33, row k67 67 (.slice A3 (Q.L.l).length c3) Q.L.l, row k41 41 (.slice B3 (Q.es).length d3) Q.es, box gy [.int .u64 F.f0, .string F.f1, .bool F.f2] 41, box gb [.slice A2 Qb.L.l.length c2, .bool Qb.L.dn, .int .i64 Qb.L.fu, .int .i64 Qb.L.fa, .int .i64 Qb.L.size, .int .u64 Qb.L.fr, .int .u64 Qb.L.nx, .bool Qb.L.br, .slice B2 Qb.es.length d2, .int .i64 Qb.most] 33, box gx [.int .u64 x.f0, .string x.f1, .bool true] 41, box ga [.slice A1 Qa.L.l.length c1, .bool Qa.L.dn, .int .i64 Qa.L.fu, .int .i64 Qa.L.fa, .int .i64 Qa.L.size, .int .u64 Qa.L.fr, .int .u64 Qa.L.nx, .bool Qa.L.br, .slice B1 Qa.es.length d1, .int .i64 Qa.most] 33, box gq [.slice A Q.L.l.length c, .bool Q.L.dn, .int .i64 Q.L.fu, .int .i64 Q.L.fa, .int .i64 Q.L.size, .int .u64 Q.L.fr, .int .u64 Q.L.nx, .bool Q.L.br, .slice B Q.es.length d, .int .i64 Q.most] 33]) rfl (t := 41) (p := 12) rfl rfl ?hr (H1 := (Sep.set0 (Sep.set0 (Sep.set0 H.out 0 (.int .u64 x.f0) rfl) 1 (.string x.f1) rfl) 2 (.bool true) rfl)) ?_;
   (case hr => first | (go_simp; done) | (go_simp; rfl));
   intro TR n_;
   clear H c_z z_z c_h z_h c_c c_y c_b c_x c_a c_q;
   have H := n_;
   clear n_;
   have c_z := H.out.cell (g := gz) aH;
   have z_z := H.out.frozen (g := gz) aH;
   have c_h := H.out.cell (g := gh) mem1;
   have z_h := H.out.frozen (g := gh) mem1;
   have c_c := H.out.cell (g := gc) bM;
   have c_y := H.out.cell (g := gy) jE;
   have c_b := H.out.cell (g := gb) oN;
   have c_x := H.out.cell (g := gx) F9;
   have c_a := H.out.cell (g := ga) wO;
   have c_q := H.out.cell (g := gq) LM)
 |fail)
   refine ((DW A3 c3 B3 d3 A c B d Q _ (H.out.reads dM).2.2 (H.out.reads dM).2.1 (H.out.reads jM).2.2 (H.out.reads jM).2.1 (H.out.came HRp.out) HCp.out (H.out.came HRe.out) HCe.out HSM.out.1 HSM.out.2).mono ?_)
   rintro e Y1 ⟨rfl, hb_⟩
   have n_ : aA (Sep w Y1 [box gz [.int .u64 x.f0, .string x.f1, .bool true] 41, box gh [.slice A4 Qa.L.l.length c4, .bool Qa.L.dn, .int .i64 Qa.L.fu, .int .i64 Qa.L.fa, .int .i64 Qa.L.size, .int .u64 Qa.L.fr, .int .u64 Qa.L.nx, .bool Qa.L.br, .slice B4 Qa.es.length d4, .int .i64 Qa.most] 33, row k67 67 (.slice A4 (Qa.L.l).length c4) Qa.L.l, row k41 41 (.slice B4 (Qa.es).length d4) Qa.es, box gc [.slice A3 Q.L.l.length c3, .bool Q.L.dn, .int .i64 Q.L.fu, .int .i64 Q.L.fa, .int .i64 Q.L.size, .int .u64 Q.L.fr, .int .u64 Q.L.nx, .bool Q.L.br, .slice B3 Q.es.length d3, .int .i64 Q.most] 33, row k67 67 (.slice A3 (Q.L.l).length c3) Q.L.l, row k41 41 (.slice B3 (Q.es).length d3) Q.es, box gy [.int .u64 F.f0, .string F.f1, .bool F.f2] 41, box gb [.slice A2 Qb.L.l.length c2, .bool Qb.L.dn, .int .i64 Qb.L.fu, .int .i64 Qb.L.fa, .int .i64 Qb.L.size, .int .u64 Qb.L.fr, .int .u64 Qb.L.nx, .bool Qb.L.br, .slice B2 Qb.es.length d2, .int .i64 Qb.most] 33, box gx [.int .u64 x.f0, .string x.f1, .bool true] 41, box ga [.slice A1 Qa.L.l.length c1, .bool Qa.L.dn, .int .i64 Qa.L.fu, .int .i64 Qa.L.fa, .int .i64 Qa.L.size, .int .u64 Qa.L.fr, .int .u64 Qa.L.nx, .bool Qa.L.br, .slice B1 Qa.es.length d1, .int .i64 Qa.most] 33, box gq [.slice A Q.L.l.length c, .bool Q.L.dn, .int .i64 Q.L.fu, .int .i64 Q.L.fa, .int .i64 Q.L.size, .int .u64 Q.L.fr, .int .u64 Q.L.nx, .bool Q.L.br, .slice B Q.es.length d, .int .i64 Q.most] 33]) := ⟨H.out.step hb_⟩
   clear H c_z z_z c_h z_h c_c c_y c_b c_x c_a c_q
   have H := n_
   clear n_
   have c_z := H.out.cell (g := gz) aH
   have z_z := H.out.frozen (g := gz) aH
   have c_h := H.out.cell (g := gh) mem1
   have z_h := H.out.frozen (g := gh) mem1
   have c_c := H.out.cell (g := gc) bM
   have c_y := H.out.cell (g := gy) jE
   have c_b := H.out.cell (g := gb) oN
   have c_x := H.out.cell (g := gx) F9
   have c_a := H.out.cell (g := ga) wO
   have c_q := H.out.cell (g := gq) LM
   clear hb_
   go_wp2_with fail
   go_ret
   exact ⟨by first | rfl | simp, H.out.below⟩
 ·
  obtain ⟨Qa, ea, ha⟩ : ∃ Qa ea, gU Q = (Qa, ea) := ⟨_, _, rfl⟩
  rw [MG hz, ha] at HL
  rw [ha] at hz
  dsimp only at HL hz
  have hz2 : (ea == 0) = false := by simpa using hz
  clear ha
  refine ((HL.out _ _ _ _ _ (H.out.came HRp.out) HCp.out (H.out.came HRe.out) HCe.out (HG.out.below H.out.below)).mono ?_)
  rintro e qdJ ⟨A1, c1, B1, d1, rfl, HJ⟩
  have n_ : aA (Sep w qdJ [row k67 67 (.slice A1 (Qa.L.l).length c1) Qa.L.l, row k41 41 (.slice B1 (Qa.es).length d1) Qa.es, box gq [.slice A Q.L.l.length c, .bool Q.L.dn, .int .i64 Q.L.fu, .int .i64 Q.L.fa, .int .i64 Q.L.size, .int .u64 Q.L.fr, .int .u64 Q.L.nx, .bool Q.L.br, .slice B Q.es.length d, .int .i64 Q.most] 33]) := ⟨dI H.out HJ.out⟩
  clear H c_q
  have H := n_
  clear n_
  have c_q := H.out.cell (g := gq) mem2
  clear HJ
  simp only [qc, lgc, List.cons_append, List.nil_append]
  simp only [z41]
  go_wp2_with (first
 |((with_reducible refine aN (N := 3) rfl ?_);
   refine aX rfl H (cs := [.slice none 0 0, .bool false, .int .i64 0, .int .i64 0, .int .i64 0, .int .u64 0, .int .u64 0, .bool false, .slice none 0 0, .int .i64 0]) (t := 33) ?hr ?_;
   (case hr => first | (go_simp; done) | (go_simp; rfl));
   intro ga qeK n_;
   simp only [Act.put, zA, zZ, zS];
   clear H c_q;
   have H := n_;
   clear n_;
   have c_a := H.out.cell (g := ga) aH;
   have z_a := H.out.frozen (g := ga) aH;
   have c_q := H.out.cell (g := gq) mem3)
 |((with_reducible refine aN (N := 4) rfl ?_);
   refine aX rfl H (cs := [.int .u64 0, .string ⟨#[]⟩, .bool false]) (t := 41) ?hr ?_;
   (case hr => first | (go_simp; done) | (go_simp; rfl));
   intro gx qeL n_;
   simp only [Act.put, zA, zZ, zS];
   clear H c_a z_a c_q;
   have H := n_;
   clear n_;
   have c_x := H.out.cell (g := gx) aH;
   have z_x := H.out.frozen (g := gx) aH;
   have c_a := H.out.cell (g := ga) mem1;
   have z_a := H.out.frozen (g := ga) mem1;
   have c_q := H.out.cell (g := gq) bM)
 |((with_reducible refine aK (t := 33) (p := 3) rfl ?_);
   refine aV (rs1 := [box gx [.int .u64 0, .string ⟨#[]⟩, .bool false] 41, box ga [.slice A1 Qa.L.l.length c1, .bool Qa.L.dn, .int .i64 Qa.L.fu, .int .i64 Qa.L.fa, .int .i64 Qa.L.size, .int .u64 Qa.L.fr, .int .u64 Qa.L.nx, .bool Qa.L.br, .slice B1 Qa.es.length d1, .int .i64 Qa.most] 33, row k67 67 (.slice A1 (Qa.L.l).length c1) Qa.L.l, row k41 41 (.slice B1 (Qa.es).length d1) Qa.es, box gq [.slice A Q.L.l.length c, .bool Q.L.dn, .int .i64 Q.L.fu, .int .i64 Q.L.fa, .int .i64 Q.L.size, .int .u64 Q.L.fr, .int .u64 Q.L.nx, .bool Q.L.br, .slice B Q.es.length d, .int .i64 Q.most] 33]) rfl (t := 33) (p := 3) rfl rfl ?hr (H1 := (Sep.set1 (Sep.set1 (Sep.set1 (Sep.set1 (Sep.set1 (Sep.set1 (Sep.set1 (Sep.set1 (Sep.set1 (Sep.set1 H.out 0 (.slice A1 Qa.L.l.length c1) rfl) 1 (.bool Qa.L.dn) rfl) 2 (.int .i64 Qa.L.fu) rfl) 3 (.int .i64 Qa.L.fa) rfl) 4 (.int .i64 Qa.L.size) rfl) 5 (.int .u64 Qa.L.fr) rfl) 6 (.int .u64 Qa.L.nx) rfl) 7 (.bool Qa.L.br) rfl) 8 (.slice B1 Qa.es.length d1) rfl) 9 (.int .i64 Qa.most) rfl)) ?_;
   (case hr => first | (go_simp; done) | (go_simp; rfl));
   intro qf8 n_;
   clear H c_x z_x c_a z_a c_q;
   have H := n_;
   clear n_;
   have c_x := H.out.cell (g := gx) aH;
   have z_x := H.out.frozen (g := gx) aH;
   have c_a := H.out.cell (g := ga) mem1;
   have z_a := H.out.frozen (g := ga) mem1;
   have c_q := H.out.cell (g := gq) bM)
 |((with_reducible refine aK (t := 41) (p := 4) rfl ?_);
   refine aV (rs1 := [box gx [.int .u64 0, .string ⟨#[]⟩, .bool false] 41, box ga [.slice A1 Qa.L.l.length c1, .bool Qa.L.dn, .int .i64 Qa.L.fu, .int .i64 Qa.L.fa, .int .i64 Qa.L.size, .int .u64 Qa.L.fr, .int .u64 Qa.L.nx, .bool Qa.L.br, .slice B1 Qa.es.length d1, .int .i64 Qa.most] 33, row k67 67 (.slice A1 (Qa.L.l).length c1) Qa.L.l, row k41 41 (.slice B1 (Qa.es).length d1) Qa.es, box gq [.slice A Q.L.l.length c, .bool Q.L.dn, .int .i64 Q.L.fu, .int .i64 Q.L.fa, .int .i64 Q.L.size, .int .u64 Q.L.fr, .int .u64 Q.L.nx, .bool Q.L.br, .slice B Q.es.length d, .int .i64 Q.most] 33]) rfl (t := 41) (p := 4) rfl rfl ?hr (H1 := (Sep.set0 (Sep.set0 (Sep.set0 H.out 0 (.int .u64 0) rfl) 1 (.string ⟨#[]⟩) rfl) 2 (.bool false) rfl)) ?_;
   (case hr => first | (go_simp; done) | (go_simp; rfl));
   intro qf9 n_;
   clear H c_x z_x c_a z_a c_q;
   have H := n_;
   clear n_;
   have c_x := H.out.cell (g := gx) aH;
   have z_x := H.out.frozen (g := gx) aH;
   have c_a := H.out.cell (g := ga) mem1;
   have z_a := H.out.frozen (g := ga) mem1;
   have c_q := H.out.cell (g := gq) bM)
 |fail)
  go_ret
  exact ⟨by first | rfl | simp, H.out.below⟩
end Go.Proofs.YtanonhipicoigaaGreatDoor.U
