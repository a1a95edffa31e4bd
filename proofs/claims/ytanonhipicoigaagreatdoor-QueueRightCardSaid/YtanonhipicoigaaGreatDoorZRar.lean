import Derived.Test.YtanonhipicoigaaGreatDoorZRaq
import Derived.Test.YtanonhipicoigaaGreatDoorZRai
import Derived.Test.YtanonhipicoigaaGreatDoorZRan
import Derived.Test.YtanonhipicoigaaGreatDoorZRao
import Derived.Test.YtanonhipicoigaaGreatDoorZRak
import Derived.Test.YtanonhipicoigaaGreatDoorZRag
set_option linter.unusedVariables false
set_option linter.unusedSimpArgs false
set_option maxRecDepth 100000
namespace Go.Proofs.U
open Go.RowKit Go.Proofs.aA.aK Go.Proofs.aA.aW Go.Proofs.aA.aX Go.Proofs.Sp Go.Proofs.gB
open Classical in
noncomputable def jU (Q : Qu) (D : Qu × Int) : Qu × Int := if okQ Q then (if Q.L.br = true then (Q, 6) else D) else (Qz, 6)
noncomputable def xJ (Q : Qu) (data : ByteArray) : Qu × Int := jU Q (F8 Q Q.L.nx data)
noncomputable def GH (Q : Qu) (data : ByteArray) : Int := if (xJ Q data).2 = 0 then Q.L.nx else 0
noncomputable def lZ (Q : Qu) : Qu × Int := jU Q (sG Q)
open Classical in
noncomputable def kR (Q : Qu) : S41 := if okQ Q ∧ Q.L.br = false then vS Q else z41
noncomputable def oJ (Q : Qu) (q : Int) : Qu × Int := jU Q (pG Q q)
noncomputable def EI (Q : Qu) (q : Int) : Qu × Int := jU Q (F9 Q q)
noncomputable def doQ (Q : Qu) (k : Int) (sd : ByteArray) (sq : Int) : Qu × S41 × Int :=
 if k = 1 then ((xJ Q sd).1, ⟨GH Q sd, ⟨#[]⟩, false⟩, (xJ Q sd).2)
 else if k = 2 then ((lZ Q).1, kR Q, (lZ Q).2)
 else if k = 3 then ((oJ Q sq).1, z41, (oJ Q sq).2)
 else if k = 4 then ((EI Q sq).1, z41, (EI Q sq).2)
 else ((jU Q (Q, 5)).1, z41, (jU Q (Q, 5)).2)
theorem sH {b w : World} {rs rs' rs2 : List Res} {fdo : Nat} {lb : List Value} (A : Option Addr) (c : Nat) (B : Option Addr) (d : Nat) (Q : Qu) (D : Qu × Int) (hr : Kd.C k67 b A Q.L.l.length Q.L.l) (hc : Q.L.l.length ≤ c) (hre : Kd.C k41 b B Q.es.length Q.es) (hce : Q.es.length ≤ d) (h0 : 0 ≤ Q.L.fr)
  (he : ∀ args w, (callFunc fdo args).run Tryz.prog w = .ok (.enter fdo args) w) (H0 : aC (Sep b w rs)) (hdo : okQ Q → Q.L.br = false → yS b fdo lb Q rs rs' D.1 D.2) (h1 : okQ Q → Q.L.br = false → rs2 = rs') (h2 : ¬ (okQ Q ∧ Q.L.br = false) → rs2 = rs) :
  Calls Tryz.prog 52 #[.agg (qc A c B d Q).toArray, .func (.func fdo) #[] lb.toArray] w fun e w' => ∃ A' c' B' d', e = .returned (.tuple #[.agg (qc A' c' B' d' (jU Q D).1).toArray, .int .i64 (jU Q D).2]) ∧ aC (Sep b w' (lV A' c' (jU Q D).1.L.l :: rG B' d' (jU Q D).1.es :: rs2)) := by
 by_cases hok : okQ Q
 ·cases hbr : Q.L.br
  ·have e : jU Q D = D := by rw [jU, if_pos hok, hbr, if_neg (by simp)]
   rw [e, h1 hok hbr]
   exact vP A c B d Q D.1 D.2 hr hc hre hce h0 he H0 (.inr (.inr ⟨hok, hbr, hdo hok hbr⟩))
  ·have e : jU Q D = (Q, 6) := by rw [jU, if_pos hok, hbr, if_pos rfl]
   rw [e, h2 (fun h => by rw [hbr] at h; cases h.2)]
   exact vP A c B d Q Q 6 hr hc hre hce h0 he H0 (.inr (.inl ⟨hok, hbr, rfl, rfl, rfl⟩))
 ·have e : jU Q D = (Qz, 6) := by rw [jU, if_neg hok]
  rw [e, h2 (fun h => hok h.1)]
  exact vP A c B d Q Qz 6 hr hc hre hce h0 he H0 (.inl ⟨hok, rfl, rfl, rfl⟩)
set_option maxHeartbeats 8000000 in
theorem put_any (A : Option Addr) (c : Nat) (B : Option Addr) (d : Nat) (Q : Qu) (data : ByteArray) (w : World) (hr : Kd.C k67 w A Q.L.l.length Q.L.l) (hc : Q.L.l.length ≤ c) (hre : Kd.C k41 w B Q.es.length Q.es) (hce : Q.es.length ≤ d) (hG : Gl w) (h0 : 0 ≤ Q.L.fr) (hnx : 0 ≤ Q.L.nx) (hnx2 : Q.L.nx < 18446744073709551616) :
  Calls Tryz.prog 20 #[.agg (qc A c B d Q).toArray, .string data] w fun e w' => ∃ A' c' B' d', e = .returned (.tuple #[.agg (qc A' c' B' d' (xJ Q data).1).toArray, .int .u64 (GH Q data), .int .i64 (xJ Q data).2]) ∧ aC (Sep w w' [lV A' c' (xJ Q data).1.L.l, rG B' d' (xJ Q data).1.es]) := by
 have HRp := aC.mk hr
 have HCp := aC.mk hc
 have HRe := aC.mk hre
 have HCe := aC.mk hce
 have HG := aC.mk hG
 have HF := aC.mk h0
 have HN0 := aC.mk hnx
 have HN1 := aC.mk hnx2
 clear hr hc hre hce hG h0 hnx hnx2
 simp only [qc, lgc, List.cons_append, List.nil_append]
 obtain ⟨Z, hZ⟩ : ∃ Z, Z = (xJ Q data) := ⟨_, rfl⟩
 rw [← hZ]
 have HZ := aC.mk hZ
 clear hZ
 obtain ⟨S, hS⟩ : ∃ S, S = GH Q data := ⟨_, rfl⟩
 rw [← hS]
 have HS := aC.mk hS
 clear hS
 have H := aC.mk (Sep.start w)
 go_enter Tryz.func20, Tryz.ntmps20
 go_wp2_with (first
 |((with_reducible refine aU (N := 2) rfl ?_);
   refine bK rfl H (cs := [.slice A Q.L.l.length c, .bool Q.L.dn, .int .i64 Q.L.fu, .int .i64 Q.L.fa, .int .i64 Q.L.size, .int .u64 Q.L.fr, .int .u64 Q.L.nx, .bool Q.L.br, .slice B Q.es.length d, .int .i64 Q.most]) (t := 33) ?hr ?_;
   (case hr => first | (go_simp; done) | (go_simp; rfl));
   intro gq wd1 n_;
   simp only [Act.put, zA, zZ, zS];
   clear H;
   have H := n_;
   clear n_;
   have c_q := H.out.cell (g := gq) aP;
   have z_q := H.out.frozen (g := gq) aP)
 |((with_reducible refine aU (N := 3) rfl ?_);
   refine bK rfl H (cs := [.string data]) (t := 9) ?hr ?_;
   (case hr => first | (go_simp; done) | (go_simp; rfl));
   intro gt wd2 n_;
   simp only [Act.put, zA, zZ, zS];
   clear H c_q z_q;
   have H := n_;
   clear n_;
   have c_t := H.out.cell (g := gt) aP;
   have c_q := H.out.cell (g := gq) mem1;
   have z_q := H.out.frozen (g := gq) mem1)
 |((with_reducible refine aU (N := 4) rfl ?_);
   refine bK rfl H (cs := [.slice none 0 0, .bool false, .int .i64 0, .int .i64 0, .int .i64 0, .int .u64 0, .int .u64 0, .bool false, .slice none 0 0, .int .i64 0]) (t := 33) ?hr ?_;
   (case hr => first | (go_simp; done) | (go_simp; rfl));
   intro gz wd3 n_;
   simp only [Act.put, zA, zZ, zS];
   clear H c_t c_q z_q;
   have H := n_;
   clear n_;
   have c_z := H.out.cell (g := gz) aP;
   have z_z := H.out.frozen (g := gz) aP;
   have c_t := H.out.cell (g := gt) mem1;
   have c_q := H.out.cell (g := gq) mem2;
   have z_q := H.out.frozen (g := gq) mem2)
 |((with_reducible refine aU (N := 7) rfl ?_);
   refine bK rfl H (cs := [.int .u64 0]) (t := 28) ?hr ?_;
   (case hr => first | (go_simp; done) | (go_simp; rfl));
   intro gs wd4 n_;
   simp only [Act.put, zA, zZ, zS];
   clear H c_z z_z c_t c_q z_q;
   have H := n_;
   clear n_;
   have c_s := H.out.cell (g := gs) aP;
   have z_s := H.out.frozen (g := gs) aP;
   have c_z := H.out.cell (g := gz) mem1;
   have z_z := H.out.frozen (g := gz) mem1;
   have c_t := H.out.cell (g := gt) mem2;
   have c_q := H.out.cell (g := gq) mem3;
   have z_q := H.out.frozen (g := gq) mem3)
 |((with_reducible refine aV (t := 28) (p := 7) rfl ?_);
   refine bH (rs1 := [box gs [.int .u64 Q.L.nx] 28, box gz [.slice none 0 0, .bool false, .int .i64 0, .int .i64 0, .int .i64 0, .int .u64 0, .int .u64 0, .bool false, .slice none 0 0, .int .i64 0] 33, box gt [.string data] 9, box gq [.slice A Q.L.l.length c, .bool Q.L.dn, .int .i64 Q.L.fu, .int .i64 Q.L.fa, .int .i64 Q.L.size, .int .u64 Q.L.fr, .int .u64 Q.L.nx, .bool Q.L.br, .slice B Q.es.length d, .int .i64 Q.most] 33]) rfl (t := 28) (p := 7) rfl rfl ?hr (H1 := (Sep.set0 H.out 0 (.int .u64 Q.L.nx) rfl)) ?_;
   (case hr => first | (go_simp; done) | (go_simp; rfl));
   intro wd5 n_;
   clear H c_s z_s c_z z_z c_t c_q z_q;
   have H := n_;
   clear n_;
   have c_s := H.out.cell (g := gs) aP;
   have z_s := H.out.frozen (g := gs) aP;
   have c_z := H.out.cell (g := gz) mem1;
   have z_z := H.out.frozen (g := gz) mem1;
   have c_t := H.out.cell (g := gt) mem2;
   have c_q := H.out.cell (g := gq) mem3;
   have z_q := H.out.frozen (g := gq) mem3)
 |fail)
 obtain ⟨D, hD⟩ : ∃ D, D = jU Q (F8 Q Q.L.nx data) := ⟨_, rfl⟩
 have HD := aC.mk hD
 refine (sH (fdo := 53) (lb := [.pointer (some ⟨gt, 0, none⟩), .pointer (some ⟨gs, 0, none⟩)]) (rs := [box gt [.string data] 9, box gs [.int .u64 Q.L.nx] 28, box gq [.slice A Q.L.l.length c, .bool Q.L.dn, .int .i64 Q.L.fu, .int .i64 Q.L.fa, .int .i64 Q.L.size, .int .u64 Q.L.fr, .int .u64 Q.L.nx, .bool Q.L.br, .slice B Q.es.length d, .int .i64 Q.most] 33, box gz [.slice none 0 0, .bool false, .int .i64 0, .int .i64 0, .int .i64 0, .int .u64 0, .int .u64 0, .bool false, .slice none 0 0, .int .i64 0] 33]) (rs2 := [box gt [.string data] 9, box gs [.int .u64 Q.L.nx] 28, box gq [.slice A Q.L.l.length c, .bool Q.L.dn, .int .i64 Q.L.fu, .int .i64 Q.L.fa, .int .i64 Q.L.size, .int .u64 Q.L.fr, .int .u64 Q.L.nx, .bool Q.L.br, .slice B Q.es.length d, .int .i64 Q.most] 33, box gz [.slice none 0 0, .bool false, .int .i64 0, .int .i64 0, .int .i64 0, .int .u64 0, .int .u64 0, .bool false, .slice none 0 0, .int .i64 0] 33]) A c B d Q (F8 Q Q.L.nx data) HRp.out HCp.out HRe.out HCe.out HF.out (fun args w => by simp [go_sem]) ⟨(Sep.oZ (Sep.iY (Sep.oZ (Sep.iW H.out))))⟩ (fun hok hbr => qU (qdQ w Q gt gs Q.L.nx data HG.out HN0.out HN1.out hok.2.2.2.1) [box gq [.slice A Q.L.l.length c, .bool Q.L.dn, .int .i64 Q.L.fu, .int .i64 Q.L.fa, .int .i64 Q.L.size, .int .u64 Q.L.fr, .int .u64 Q.L.nx, .bool Q.L.br, .slice B Q.es.length d, .int .i64 Q.most] 33, box gz [.slice none 0 0, .bool false, .int .i64 0, .int .i64 0, .int .i64 0, .int .u64 0, .int .u64 0, .bool false, .slice none 0 0, .int .i64 0] 33]) (fun _ _ => rfl) (fun _ => rfl)).mono ?_
 rw [← hD]
 rintro e wd6 ⟨A1, c1, B1, d1, rfl, H2⟩
 clear hD
 simp only [qc, lgc, List.cons_append, List.nil_append]
 have n_ : aC (Sep w wd6 [row k67 67 (.slice A1 (D.1.L.l).length c1) D.1.L.l, row k41 41 (.slice B1 (D.1.es).length d1) D.1.es, box gt [.string data] 9, box gs [.int .u64 Q.L.nx] 28, box gq [.slice A Q.L.l.length c, .bool Q.L.dn, .int .i64 Q.L.fu, .int .i64 Q.L.fa, .int .i64 Q.L.size, .int .u64 Q.L.fr, .int .u64 Q.L.nx, .bool Q.L.br, .slice B Q.es.length d, .int .i64 Q.most] 33, box gz [.slice none 0 0, .bool false, .int .i64 0, .int .i64 0, .int .i64 0, .int .u64 0, .int .u64 0, .bool false, .slice none 0 0, .int .i64 0] 33]) := ⟨H2.out⟩
 clear H c_s z_s c_z z_z c_t c_q z_q
 have H := n_
 clear n_
 have c_t := H.out.cell (g := gt) mem2
 have c_s := H.out.cell (g := gs) mem3
 have z_s := H.out.frozen (g := gs) mem3
 have c_q := H.out.cell (g := gq) bT
 have z_q := H.out.frozen (g := gq) bT
 have c_z := H.out.cell (g := gz) dM
 have z_z := H.out.frozen (g := gz) dM
 clear H2
 have hSD : S = if D.2 = 0 then Q.L.nx else 0 := by rw [HS.out, GH, show xJ Q data = D from HD.out.symm]
 have hZD : D = Z := HD.out.trans HZ.out.symm
 subst hZD
 have HSD := aC.mk hSD
 clear hSD HD
 by_cases hz : D.2 = 0
 ·
  go_upto_region 5 with (first
 |((with_reducible refine aV (t := 33) (p := 2) rfl ?_);
   refine bH (rs1 := [row k67 67 (.slice A1 (D.1.L.l).length c1) D.1.L.l, row k41 41 (.slice B1 (D.1.es).length d1) D.1.es, box gt [.string data] 9, box gs [.int .u64 Q.L.nx] 28, box gq [.slice A1 D.1.L.l.length c1, .bool D.1.L.dn, .int .i64 D.1.L.fu, .int .i64 D.1.L.fa, .int .i64 D.1.L.size, .int .u64 D.1.L.fr, .int .u64 D.1.L.nx, .bool D.1.L.br, .slice B1 D.1.es.length d1, .int .i64 D.1.most] 33, box gz [.slice none 0 0, .bool false, .int .i64 0, .int .i64 0, .int .i64 0, .int .u64 0, .int .u64 0, .bool false, .slice none 0 0, .int .i64 0] 33]) rfl (t := 33) (p := 2) rfl rfl ?hr (H1 := (Sep.dS (Sep.dS (Sep.dS (Sep.dS (Sep.dS (Sep.dS (Sep.dS (Sep.dS (Sep.dS (Sep.dS H.out 0 (.slice A1 D.1.L.l.length c1) rfl) 1 (.bool D.1.L.dn) rfl) 2 (.int .i64 D.1.L.fu) rfl) 3 (.int .i64 D.1.L.fa) rfl) 4 (.int .i64 D.1.L.size) rfl) 5 (.int .u64 D.1.L.fr) rfl) 6 (.int .u64 D.1.L.nx) rfl) 7 (.bool D.1.L.br) rfl) 8 (.slice B1 D.1.es.length d1) rfl) 9 (.int .i64 D.1.most) rfl)) ?_;
   (case hr => first | (go_simp; done) | (go_simp; rfl));
   intro wd7 n_;
   clear H c_t c_s z_s c_q z_q c_z z_z;
   have H := n_;
   clear n_;
   have c_t := H.out.cell (g := gt) mem2;
   have c_s := H.out.cell (g := gs) mem3;
   have c_q := H.out.cell (g := gq) bT;
   have z_q := H.out.frozen (g := gq) bT;
   have c_z := H.out.cell (g := gz) dM;
   have z_z := H.out.frozen (g := gz) dM)
 |fail)
  have uO : ¬ gq = gz := iF H.out (i := 4) (j := 5) rfl rfl (by decide)
  have sJ : ¬ gz = gq := fun e => uO e.symm
  have qc9 : ¬ gs = gz := iF H.out (i := 3) (j := 5) rfl rfl (by decide)
  have qeB : ¬ gz = gs := fun e => qc9 e.symm
  go_upto_region 5 with fail
  go_region
  refine qI (rs := [row k67 67 (.slice A1 (D.1.L.l).length c1) D.1.L.l, row k41 41 (.slice B1 (D.1.es).length d1) D.1.es, box gt [.string data] 9, box gs [.int .u64 Q.L.nx] 28, box gq [.slice A1 D.1.L.l.length c1, .bool D.1.L.dn, .int .i64 D.1.L.fu, .int .i64 D.1.L.fa, .int .i64 D.1.L.size, .int .u64 D.1.L.fr, .int .u64 D.1.L.nx, .bool D.1.L.br, .slice B1 D.1.es.length d1, .int .i64 D.1.most] 33, box gz [.slice A1 D.1.L.l.length c1, .bool D.1.L.dn, .int .i64 D.1.L.fu, .int .i64 D.1.L.fa, .int .i64 D.1.L.size, .int .u64 D.1.L.fr, .int .u64 D.1.L.nx, .bool D.1.L.br, .slice B1 D.1.es.length d1, .int .i64 D.1.most] 33]) (Sep.drew (Sep.gY (Sep.gY (Sep.gY (Sep.gY (Sep.gY (Sep.gY (Sep.gY (Sep.gY (Sep.gY (Sep.gY H.out 0 (.slice A1 D.1.L.l.length c1) rfl) 1 (.bool D.1.L.dn) rfl) 2 (.int .i64 D.1.L.fu) rfl) 3 (.int .i64 D.1.L.fa) rfl) 4 (.int .i64 D.1.L.size) rfl) 5 (.int .u64 D.1.L.fr) rfl) 6 (.int .u64 D.1.L.nx) rfl) 7 (.bool D.1.L.br) rfl) 8 (.slice B1 D.1.es.length d1) rfl) 9 (.int .i64 D.1.most) rfl)) ?_
  intro wd8 n_
  clear H c_t c_s c_q z_q c_z z_z
  have H := n_
  clear n_
  have c_t := H.out.cell (g := gt) mem2
  have c_s := H.out.cell (g := gs) mem3
  have c_q := H.out.cell (g := gq) bT
  have z_q := H.out.frozen (g := gq) bT
  have c_z := H.out.cell (g := gz) dM
  have z_z := H.out.frozen (g := gz) dM
  clear uO sJ qc9 qeB
  go_wp2_with fail
  have hSD := HSD.out
  rw [if_pos hz] at hSD
  refine bodyPost_ret (dH (rs := [.cell 4 33, .tmp 5, .tmp 6]) rfl (by simp) (.cell gz 33 _ _ _ rfl (H.out.jF (g := gz) dM) Tryz.underlying33 rfl info33 (.tmp (.tmp .nil)))) rfl ?_
  subst hSD
  exact ⟨A1, c1, B1, d1, by rw [hz]; rfl, ⟨(Sep.drop2 (Sep.iJ (Sep.lC (Sep.sQ H.out))))⟩⟩
 ·
  go_wp2_with (first
 |((with_reducible refine aV (t := 33) (p := 2) rfl ?_);
   refine bH (rs1 := [row k67 67 (.slice A1 (D.1.L.l).length c1) D.1.L.l, row k41 41 (.slice B1 (D.1.es).length d1) D.1.es, box gt [.string data] 9, box gs [.int .u64 Q.L.nx] 28, box gq [.slice A1 D.1.L.l.length c1, .bool D.1.L.dn, .int .i64 D.1.L.fu, .int .i64 D.1.L.fa, .int .i64 D.1.L.size, .int .u64 D.1.L.fr, .int .u64 D.1.L.nx, .bool D.1.L.br, .slice B1 D.1.es.length d1, .int .i64 D.1.most] 33, box gz [.slice none 0 0, .bool false, .int .i64 0, .int .i64 0, .int .i64 0, .int .u64 0, .int .u64 0, .bool false, .slice none 0 0, .int .i64 0] 33]) rfl (t := 33) (p := 2) rfl rfl ?hr (H1 := (Sep.dS (Sep.dS (Sep.dS (Sep.dS (Sep.dS (Sep.dS (Sep.dS (Sep.dS (Sep.dS (Sep.dS H.out 0 (.slice A1 D.1.L.l.length c1) rfl) 1 (.bool D.1.L.dn) rfl) 2 (.int .i64 D.1.L.fu) rfl) 3 (.int .i64 D.1.L.fa) rfl) 4 (.int .i64 D.1.L.size) rfl) 5 (.int .u64 D.1.L.fr) rfl) 6 (.int .u64 D.1.L.nx) rfl) 7 (.bool D.1.L.br) rfl) 8 (.slice B1 D.1.es.length d1) rfl) 9 (.int .i64 D.1.most) rfl)) ?_;
   (case hr => first | (go_simp; done) | (go_simp; rfl));
   intro wd9 n_;
   clear H c_t c_s z_s c_q z_q c_z z_z;
   have H := n_;
   clear n_;
   have c_t := H.out.cell (g := gt) mem2;
   have c_s := H.out.cell (g := gs) mem3;
   have c_q := H.out.cell (g := gq) bT;
   have z_q := H.out.frozen (g := gq) bT;
   have c_z := H.out.cell (g := gz) dM;
   have z_z := H.out.frozen (g := gz) dM)
 |((with_reducible refine aV (t := 33) (p := 4) rfl ?_);
   refine bH (rs1 := [row k67 67 (.slice A1 (D.1.L.l).length c1) D.1.L.l, row k41 41 (.slice B1 (D.1.es).length d1) D.1.es, box gt [.string data] 9, box gs [.int .u64 Q.L.nx] 28, box gq [.slice A1 D.1.L.l.length c1, .bool D.1.L.dn, .int .i64 D.1.L.fu, .int .i64 D.1.L.fa, .int .i64 D.1.L.size, .int .u64 D.1.L.fr, .int .u64 D.1.L.nx, .bool D.1.L.br, .slice B1 D.1.es.length d1, .int .i64 D.1.most] 33, box gz [.slice A1 D.1.L.l.length c1, .bool D.1.L.dn, .int .i64 D.1.L.fu, .int .i64 D.1.L.fa, .int .i64 D.1.L.size, .int .u64 D.1.L.fr, .int .u64 D.1.L.nx, .bool D.1.L.br, .slice B1 D.1.es.length d1, .int .i64 D.1.most] 33]) rfl (t := 33) (p := 4) rfl rfl ?hr (H1 := (Sep.gY (Sep.gY (Sep.gY (Sep.gY (Sep.gY (Sep.gY (Sep.gY (Sep.gY (Sep.gY (Sep.gY H.out 0 (.slice A1 D.1.L.l.length c1) rfl) 1 (.bool D.1.L.dn) rfl) 2 (.int .i64 D.1.L.fu) rfl) 3 (.int .i64 D.1.L.fa) rfl) 4 (.int .i64 D.1.L.size) rfl) 5 (.int .u64 D.1.L.fr) rfl) 6 (.int .u64 D.1.L.nx) rfl) 7 (.bool D.1.L.br) rfl) 8 (.slice B1 D.1.es.length d1) rfl) 9 (.int .i64 D.1.most) rfl)) ?_;
   (case hr => first | (go_simp; done) | (go_simp; rfl));
   intro ED n_;
   clear H c_t c_s c_q z_q c_z z_z;
   have H := n_;
   clear n_;
   have c_t := H.out.cell (g := gt) mem2;
   have c_s := H.out.cell (g := gs) mem3;
   have c_q := H.out.cell (g := gq) bT;
   have z_q := H.out.frozen (g := gq) bT;
   have c_z := H.out.cell (g := gz) dM;
   have z_z := H.out.frozen (g := gz) dM)
 |fail)
  have hSD := HSD.out
  rw [if_neg hz] at hSD
  subst hSD
  refine bodyPost_ret (dH (rs := [.cell 4 33, .tmp 5, .tmp 6]) rfl (by simp) (.cell gz 33 _ _ _ rfl (H.out.jF (g := gz) dM) Tryz.underlying33 rfl info33 (.tmp (.tmp .nil)))) rfl ?_
  exact ⟨A1, c1, B1, d1, rfl, ⟨(Sep.drop2 (Sep.iJ (Sep.lC (Sep.sQ H.out))))⟩⟩
set_option maxHeartbeats 8000000 in
theorem LV (A : Option Addr) (c : Nat) (B : Option Addr) (d : Nat) (Q : Qu)  (w : World) (hr : Kd.C k67 w A Q.L.l.length Q.L.l) (hc : Q.L.l.length ≤ c) (hre : Kd.C k41 w B Q.es.length Q.es) (hce : Q.es.length ≤ d) (hG : Gl w) (h0 : 0 ≤ Q.L.fr) (hnx : 0 ≤ Q.L.nx) (hnx2 : Q.L.nx < 18446744073709551616) :
  Calls Tryz.prog 21 #[.agg (qc A c B d Q).toArray] w fun e w' => ∃ A' c' B' d', e = .returned (.tuple #[.agg (qc A' c' B' d' (lZ Q).1).toArray, .agg #[.int .u64 (kR Q).f0, .string (kR Q).f1, .bool (kR Q).f2], .int .i64 (lZ Q).2]) ∧ aC (Sep w w' [lV A' c' (lZ Q).1.L.l, rG B' d' (lZ Q).1.es]) := by
 have HRp := aC.mk hr
 have HCp := aC.mk hc
 have HRe := aC.mk hre
 have HCe := aC.mk hce
 have HG := aC.mk hG
 have HF := aC.mk h0
 have HN0 := aC.mk hnx
 have HN1 := aC.mk hnx2
 clear hr hc hre hce hG h0 hnx hnx2
 simp only [qc, lgc, List.cons_append, List.nil_append]
 obtain ⟨Z, hZ⟩ : ∃ Z, Z = (lZ Q) := ⟨_, rfl⟩
 rw [← hZ]
 have HZ := aC.mk hZ
 clear hZ
 obtain ⟨X, hX⟩ : ∃ X, X = kR Q := ⟨_, rfl⟩
 rw [← hX]
 have HX := aC.mk hX
 clear hX
 have H := aC.mk (Sep.start w)
 go_enter Tryz.func21, Tryz.ntmps21
 go_wp2_with (first
 |((with_reducible refine aU (N := 1) rfl ?_);
   refine bK rfl H (cs := [.slice A Q.L.l.length c, .bool Q.L.dn, .int .i64 Q.L.fu, .int .i64 Q.L.fa, .int .i64 Q.L.size, .int .u64 Q.L.fr, .int .u64 Q.L.nx, .bool Q.L.br, .slice B Q.es.length d, .int .i64 Q.most]) (t := 33) ?hr ?_;
   (case hr => first | (go_simp; done) | (go_simp; rfl));
   intro gq NJ n_;
   simp only [Act.put, zA, zZ, zS];
   clear H;
   have H := n_;
   clear n_;
   have c_q := H.out.cell (g := gq) aP;
   have z_q := H.out.frozen (g := gq) aP)
 |((with_reducible refine aU (N := 2) rfl ?_);
   refine bK rfl H (cs := [.slice none 0 0, .bool false, .int .i64 0, .int .i64 0, .int .i64 0, .int .u64 0, .int .u64 0, .bool false, .slice none 0 0, .int .i64 0]) (t := 33) ?hr ?_;
   (case hr => first | (go_simp; done) | (go_simp; rfl));
   intro gz JQ n_;
   simp only [Act.put, zA, zZ, zS];
   clear H c_q z_q;
   have H := n_;
   clear n_;
   have c_z := H.out.cell (g := gz) aP;
   have z_z := H.out.frozen (g := gz) aP;
   have c_q := H.out.cell (g := gq) mem1;
   have z_q := H.out.frozen (g := gq) mem1)
 |((with_reducible refine aU (N := 3) rfl ?_);
   refine bK rfl H (cs := [.int .u64 0, .string ⟨#[]⟩, .bool false]) (t := 41) ?hr ?_;
   (case hr => first | (go_simp; done) | (go_simp; rfl));
   intro gy JR n_;
   simp only [Act.put, zA, zZ, zS];
   clear H c_z z_z c_q z_q;
   have H := n_;
   clear n_;
   have c_y := H.out.cell (g := gy) aP;
   have z_y := H.out.frozen (g := gy) aP;
   have c_z := H.out.cell (g := gz) mem1;
   have z_z := H.out.frozen (g := gz) mem1;
   have c_q := H.out.cell (g := gq) mem2;
   have z_q := H.out.frozen (g := gq) mem2)
 |((with_reducible refine aU (N := 5) rfl ?_);
   refine bK rfl H (cs := [.int .u64 0, .string ⟨#[]⟩, .bool false]) (t := 41) ?hr ?_;
   (case hr => first | (go_simp; done) | (go_simp; rfl));
   intro gx TQ n_;
   simp only [Act.put, zA, zZ, zS];
   clear H c_y z_y c_z z_z c_q z_q;
   have H := n_;
   clear n_;
   have c_x := H.out.cell (g := gx) aP;
   have c_y := H.out.cell (g := gy) mem1;
   have z_y := H.out.frozen (g := gy) mem1;
   have c_z := H.out.cell (g := gz) mem2;
   have z_z := H.out.frozen (g := gz) mem2;
   have c_q := H.out.cell (g := gq) mem3;
   have z_q := H.out.frozen (g := gq) mem3)
 |fail)
 obtain ⟨D, hD⟩ : ∃ D, D = jU Q (sG Q) := ⟨_, rfl⟩
 have HD := aC.mk hD
 refine (sH (fdo := 56) (lb := [.pointer (some ⟨gx, 0, none⟩)]) (rs := [box gx [.int .u64 0, .string ⟨#[]⟩, .bool false] 41, box gq [.slice A Q.L.l.length c, .bool Q.L.dn, .int .i64 Q.L.fu, .int .i64 Q.L.fa, .int .i64 Q.L.size, .int .u64 Q.L.fr, .int .u64 Q.L.nx, .bool Q.L.br, .slice B Q.es.length d, .int .i64 Q.most] 33, box gz [.slice none 0 0, .bool false, .int .i64 0, .int .i64 0, .int .i64 0, .int .u64 0, .int .u64 0, .bool false, .slice none 0 0, .int .i64 0] 33, box gy [.int .u64 0, .string ⟨#[]⟩, .bool false] 41]) (rs2 := [box gx [.int .u64 (kR Q).f0, .string (kR Q).f1, .bool (kR Q).f2] 41, box gq [.slice A Q.L.l.length c, .bool Q.L.dn, .int .i64 Q.L.fu, .int .i64 Q.L.fa, .int .i64 Q.L.size, .int .u64 Q.L.fr, .int .u64 Q.L.nx, .bool Q.L.br, .slice B Q.es.length d, .int .i64 Q.most] 33, box gz [.slice none 0 0, .bool false, .int .i64 0, .int .i64 0, .int .i64 0, .int .u64 0, .int .u64 0, .bool false, .slice none 0 0, .int .i64 0] 33, box gy [.int .u64 0, .string ⟨#[]⟩, .bool false] 41]) A c B d Q (sG Q) HRp.out HCp.out HRe.out HCe.out HF.out (fun args w => by simp [go_sem]) ⟨(Sep.oZ (Sep.oZ (Sep.iY (Sep.iW H.out))))⟩ (fun hok hbr => qU (by have h := qbm w Q gx hok.2.2.2.1; exact h) [box gq [.slice A Q.L.l.length c, .bool Q.L.dn, .int .i64 Q.L.fu, .int .i64 Q.L.fa, .int .i64 Q.L.size, .int .u64 Q.L.fr, .int .u64 Q.L.nx, .bool Q.L.br, .slice B Q.es.length d, .int .i64 Q.most] 33, box gz [.slice none 0 0, .bool false, .int .i64 0, .int .i64 0, .int .i64 0, .int .u64 0, .int .u64 0, .bool false, .slice none 0 0, .int .i64 0] 33, box gy [.int .u64 0, .string ⟨#[]⟩, .bool false] 41]) (fun h1 h2 => by rw [kR, if_pos ⟨h1, h2⟩]; rfl) (fun h => by rw [kR, if_neg h]; rfl)).mono ?_
 rw [← hD]
 rintro e KR ⟨A1, c1, B1, d1, rfl, H2⟩
 clear hD
 simp only [qc, lgc, List.cons_append, List.nil_append]
 have n_ : aC (Sep w KR [row k67 67 (.slice A1 (D.1.L.l).length c1) D.1.L.l, row k41 41 (.slice B1 (D.1.es).length d1) D.1.es, box gx [.int .u64 (kR Q).f0, .string (kR Q).f1, .bool (kR Q).f2] 41, box gq [.slice A Q.L.l.length c, .bool Q.L.dn, .int .i64 Q.L.fu, .int .i64 Q.L.fa, .int .i64 Q.L.size, .int .u64 Q.L.fr, .int .u64 Q.L.nx, .bool Q.L.br, .slice B Q.es.length d, .int .i64 Q.most] 33, box gz [.slice none 0 0, .bool false, .int .i64 0, .int .i64 0, .int .i64 0, .int .u64 0, .int .u64 0, .bool false, .slice none 0 0, .int .i64 0] 33, box gy [.int .u64 0, .string ⟨#[]⟩, .bool false] 41]) := ⟨H2.out⟩
 clear H c_x c_y z_y c_z z_z c_q z_q
 have H := n_
 clear n_
 have c_x := H.out.cell (g := gx) mem2
 have c_q := H.out.cell (g := gq) mem3
 have z_q := H.out.frozen (g := gq) mem3
 have c_z := H.out.cell (g := gz) bT
 have z_z := H.out.frozen (g := gz) bT
 have c_y := H.out.cell (g := gy) dM
 have z_y := H.out.frozen (g := gy) dM
 clear H2
 have hZD : D = Z := HD.out.trans HZ.out.symm
 subst hZD
 rw [← HX.out] at H
 clear HD
 clear c_x c_q z_q c_z z_z c_y z_y
 have c_x := H.out.cell (g := gx) mem2
 have c_q := H.out.cell (g := gq) mem3
 have z_q := H.out.frozen (g := gq) mem3
 have c_z := H.out.cell (g := gz) bT
 have z_z := H.out.frozen (g := gz) bT
 have c_y := H.out.cell (g := gy) dM
 have z_y := H.out.frozen (g := gy) dM
 go_upto_region 3 with (first
 |((with_reducible refine aV (t := 33) (p := 1) rfl ?_);
   refine bH (rs1 := [row k67 67 (.slice A1 (D.1.L.l).length c1) D.1.L.l, row k41 41 (.slice B1 (D.1.es).length d1) D.1.es, box gx [.int .u64 X.f0, .string X.f1, .bool X.f2] 41, box gq [.slice A1 D.1.L.l.length c1, .bool D.1.L.dn, .int .i64 D.1.L.fu, .int .i64 D.1.L.fa, .int .i64 D.1.L.size, .int .u64 D.1.L.fr, .int .u64 D.1.L.nx, .bool D.1.L.br, .slice B1 D.1.es.length d1, .int .i64 D.1.most] 33, box gz [.slice none 0 0, .bool false, .int .i64 0, .int .i64 0, .int .i64 0, .int .u64 0, .int .u64 0, .bool false, .slice none 0 0, .int .i64 0] 33, box gy [.int .u64 0, .string ⟨#[]⟩, .bool false] 41]) rfl (t := 33) (p := 1) rfl rfl ?hr (H1 := (Sep.dY (Sep.dY (Sep.dY (Sep.dY (Sep.dY (Sep.dY (Sep.dY (Sep.dY (Sep.dY (Sep.dY H.out 0 (.slice A1 D.1.L.l.length c1) rfl) 1 (.bool D.1.L.dn) rfl) 2 (.int .i64 D.1.L.fu) rfl) 3 (.int .i64 D.1.L.fa) rfl) 4 (.int .i64 D.1.L.size) rfl) 5 (.int .u64 D.1.L.fr) rfl) 6 (.int .u64 D.1.L.nx) rfl) 7 (.bool D.1.L.br) rfl) 8 (.slice B1 D.1.es.length d1) rfl) 9 (.int .i64 D.1.most) rfl)) ?_;
   (case hr => first | (go_simp; done) | (go_simp; rfl));
   intro ZL n_;
   clear H c_x c_q z_q c_z z_z c_y z_y;
   have H := n_;
   clear n_;
   have c_x := H.out.cell (g := gx) mem2;
   have c_q := H.out.cell (g := gq) mem3;
   have z_q := H.out.frozen (g := gq) mem3;
   have c_z := H.out.cell (g := gz) bT;
   have z_z := H.out.frozen (g := gz) bT;
   have c_y := H.out.cell (g := gy) dM;
   have z_y := H.out.frozen (g := gy) dM)
 |fail)
 have uO : ¬ gq = gz := iF H.out (i := 3) (j := 4) rfl rfl (by decide)
 have sJ : ¬ gz = gq := fun e => uO e.symm
 have yT : ¬ gq = gy := iF H.out (i := 3) (j := 5) rfl rfl (by decide)
 have uP : ¬ gy = gq := fun e => yT e.symm
 have qda : ¬ gx = gz := iF H.out (i := 2) (j := 4) rfl rfl (by decide)
 have qeC : ¬ gz = gx := fun e => qda e.symm
 have qdb : ¬ gx = gy := iF H.out (i := 2) (j := 5) rfl rfl (by decide)
 have qeD : ¬ gy = gx := fun e => qdb e.symm
 have yU : ¬ gz = gy := iF H.out (i := 4) (j := 5) rfl rfl (by decide)
 have uQ : ¬ gy = gz := fun e => yU e.symm
 go_upto_region 3 with fail
 go_region
 refine qI (rs := [row k67 67 (.slice A1 (D.1.L.l).length c1) D.1.L.l, row k41 41 (.slice B1 (D.1.es).length d1) D.1.es, box gx [.int .u64 X.f0, .string X.f1, .bool X.f2] 41, box gq [.slice A1 D.1.L.l.length c1, .bool D.1.L.dn, .int .i64 D.1.L.fu, .int .i64 D.1.L.fa, .int .i64 D.1.L.size, .int .u64 D.1.L.fr, .int .u64 D.1.L.nx, .bool D.1.L.br, .slice B1 D.1.es.length d1, .int .i64 D.1.most] 33, box gz [.slice A1 D.1.L.l.length c1, .bool D.1.L.dn, .int .i64 D.1.L.fu, .int .i64 D.1.L.fa, .int .i64 D.1.L.size, .int .u64 D.1.L.fr, .int .u64 D.1.L.nx, .bool D.1.L.br, .slice B1 D.1.es.length d1, .int .i64 D.1.most] 33, box gy [.int .u64 X.f0, .string X.f1, .bool X.f2] 41]) (Sep.drew (Sep.gY (Sep.gY (Sep.gY (Sep.dS (Sep.dS (Sep.dS (Sep.dS (Sep.dS (Sep.dS (Sep.dS (Sep.dS (Sep.dS (Sep.dS H.out 0 (.slice A1 D.1.L.l.length c1) rfl) 1 (.bool D.1.L.dn) rfl) 2 (.int .i64 D.1.L.fu) rfl) 3 (.int .i64 D.1.L.fa) rfl) 4 (.int .i64 D.1.L.size) rfl) 5 (.int .u64 D.1.L.fr) rfl) 6 (.int .u64 D.1.L.nx) rfl) 7 (.bool D.1.L.br) rfl) 8 (.slice B1 D.1.es.length d1) rfl) 9 (.int .i64 D.1.most) rfl) 0 (.int .u64 X.f0) rfl) 1 (.string X.f1) rfl) 2 (.bool X.f2) rfl)) ?_
 intro qce n_
 clear H c_x c_q z_q c_z z_z c_y z_y
 have H := n_
 clear n_
 have c_x := H.out.cell (g := gx) mem2
 have c_q := H.out.cell (g := gq) mem3
 have z_q := H.out.frozen (g := gq) mem3
 have c_z := H.out.cell (g := gz) bT
 have z_z := H.out.frozen (g := gz) bT
 have c_y := H.out.cell (g := gy) dM
 have z_y := H.out.frozen (g := gy) dM
 clear uO sJ yT uP qda qeC qdb qeD yU uQ
 go_wp2_with fail
 refine bodyPost_ret (dH (rs := [.cell 2 33, .cell 3 41, .tmp 4]) rfl (by simp) (.cell gz 33 _ _ _ rfl (H.out.jF (g := gz) bT) Tryz.underlying33 rfl info33 (.cell gy 41 _ _ _ rfl (H.out.jF (g := gy) dM) Tryz.underlying41 rfl xZ (.tmp .nil)))) rfl ?_
 exact ⟨A1, c1, B1, d1, rfl, ⟨(Sep.drop2 (Sep.iJ (Sep.lC (Sep.sQ H.out))))⟩⟩
set_option maxHeartbeats 8000000 in
theorem RN (A : Option Addr) (c : Nat) (B : Option Addr) (d : Nat) (Q : Qu) (q : Int) (w : World) (hr : Kd.C k67 w A Q.L.l.length Q.L.l) (hc : Q.L.l.length ≤ c) (hre : Kd.C k41 w B Q.es.length Q.es) (hce : Q.es.length ≤ d) (hG : Gl w) (h0 : 0 ≤ Q.L.fr) (hnx : 0 ≤ Q.L.nx) (hnx2 : Q.L.nx < 18446744073709551616) (hq0 : 0 ≤ q) (hq1 : q < 18446744073709551616) :
  Calls Tryz.prog 37 #[.agg (qc A c B d Q).toArray, .int .u64 q] w fun e w' => ∃ A' c' B' d', e = .returned (.tuple #[.agg (qc A' c' B' d' (oJ Q q).1).toArray, .int .i64 (oJ Q q).2]) ∧ aC (Sep w w' [lV A' c' (oJ Q q).1.L.l, rG B' d' (oJ Q q).1.es]) := by
 have HRp := aC.mk hr
 have HCp := aC.mk hc
 have HRe := aC.mk hre
 have HCe := aC.mk hce
 have HG := aC.mk hG
 have HF := aC.mk h0
 have HN0 := aC.mk hnx
 have HN1 := aC.mk hnx2
 clear hr hc hre hce hG h0 hnx hnx2
 simp only [qc, lgc, List.cons_append, List.nil_append]
 obtain ⟨Z, hZ⟩ : ∃ Z, Z = (oJ Q q) := ⟨_, rfl⟩
 rw [← hZ]
 have HZ := aC.mk hZ
 clear hZ
 have H := aC.mk (Sep.start w)
 have HQ0 := aC.mk hq0
 have HQ1 := aC.mk hq1
 clear hq0 hq1
 go_enter Tryz.func37, Tryz.ntmps37
 go_wp2_with (first
 |((with_reducible refine aU (N := 2) rfl ?_);
   refine bK rfl H (cs := [.slice A Q.L.l.length c, .bool Q.L.dn, .int .i64 Q.L.fu, .int .i64 Q.L.fa, .int .i64 Q.L.size, .int .u64 Q.L.fr, .int .u64 Q.L.nx, .bool Q.L.br, .slice B Q.es.length d, .int .i64 Q.most]) (t := 33) ?hr ?_;
   (case hr => first | (go_simp; done) | (go_simp; rfl));
   intro gq qcf n_;
   simp only [Act.put, zA, zZ, zS];
   clear H;
   have H := n_;
   clear n_;
   have c_q := H.out.cell (g := gq) aP;
   have z_q := H.out.frozen (g := gq) aP)
 |((with_reducible refine aU (N := 3) rfl ?_);
   refine bK rfl H (cs := [.int .u64 q]) (t := 28) ?hr ?_;
   (case hr => first | (go_simp; done) | (go_simp; rfl));
   intro gs qdH n_;
   simp only [Act.put, zA, zZ, zS];
   clear H c_q z_q;
   have H := n_;
   clear n_;
   have c_s := H.out.cell (g := gs) aP;
   have c_q := H.out.cell (g := gq) mem1;
   have z_q := H.out.frozen (g := gq) mem1)
 |((with_reducible refine aU (N := 4) rfl ?_);
   refine bK rfl H (cs := [.slice none 0 0, .bool false, .int .i64 0, .int .i64 0, .int .i64 0, .int .u64 0, .int .u64 0, .bool false, .slice none 0 0, .int .i64 0]) (t := 33) ?hr ?_;
   (case hr => first | (go_simp; done) | (go_simp; rfl));
   intro gz qep n_;
   simp only [Act.put, zA, zZ, zS];
   clear H c_s c_q z_q;
   have H := n_;
   clear n_;
   have c_z := H.out.cell (g := gz) aP;
   have z_z := H.out.frozen (g := gz) aP;
   have c_s := H.out.cell (g := gs) mem1;
   have c_q := H.out.cell (g := gq) mem2;
   have z_q := H.out.frozen (g := gq) mem2)
 |fail)
 obtain ⟨D, hD⟩ : ∃ D, D = jU Q (pG Q q) := ⟨_, rfl⟩
 have HD := aC.mk hD
 refine (sH (fdo := 85) (lb := [.pointer (some ⟨gs, 0, none⟩)]) (rs := [box gs [.int .u64 q] 28, box gq [.slice A Q.L.l.length c, .bool Q.L.dn, .int .i64 Q.L.fu, .int .i64 Q.L.fa, .int .i64 Q.L.size, .int .u64 Q.L.fr, .int .u64 Q.L.nx, .bool Q.L.br, .slice B Q.es.length d, .int .i64 Q.most] 33, box gz [.slice none 0 0, .bool false, .int .i64 0, .int .i64 0, .int .i64 0, .int .u64 0, .int .u64 0, .bool false, .slice none 0 0, .int .i64 0] 33]) (rs2 := [box gs [.int .u64 q] 28, box gq [.slice A Q.L.l.length c, .bool Q.L.dn, .int .i64 Q.L.fu, .int .i64 Q.L.fa, .int .i64 Q.L.size, .int .u64 Q.L.fr, .int .u64 Q.L.nx, .bool Q.L.br, .slice B Q.es.length d, .int .i64 Q.most] 33, box gz [.slice none 0 0, .bool false, .int .i64 0, .int .i64 0, .int .i64 0, .int .u64 0, .int .u64 0, .bool false, .slice none 0 0, .int .i64 0] 33]) A c B d Q (pG Q q) HRp.out HCp.out HRe.out HCe.out HF.out (fun args w => by simp [go_sem]) ⟨(Sep.iY (Sep.iY H.out))⟩ (fun hok hbr => qU (UU w Q gs q hok.2.2.2.1) [box gq [.slice A Q.L.l.length c, .bool Q.L.dn, .int .i64 Q.L.fu, .int .i64 Q.L.fa, .int .i64 Q.L.size, .int .u64 Q.L.fr, .int .u64 Q.L.nx, .bool Q.L.br, .slice B Q.es.length d, .int .i64 Q.most] 33, box gz [.slice none 0 0, .bool false, .int .i64 0, .int .i64 0, .int .i64 0, .int .u64 0, .int .u64 0, .bool false, .slice none 0 0, .int .i64 0] 33]) (fun _ _ => rfl) (fun _ => rfl)).mono ?_
 rw [← hD]
 rintro e qcg ⟨A1, c1, B1, d1, rfl, H2⟩
 clear hD
 simp only [qc, lgc, List.cons_append, List.nil_append]
 have n_ : aC (Sep w qcg [row k67 67 (.slice A1 (D.1.L.l).length c1) D.1.L.l, row k41 41 (.slice B1 (D.1.es).length d1) D.1.es, box gs [.int .u64 q] 28, box gq [.slice A Q.L.l.length c, .bool Q.L.dn, .int .i64 Q.L.fu, .int .i64 Q.L.fa, .int .i64 Q.L.size, .int .u64 Q.L.fr, .int .u64 Q.L.nx, .bool Q.L.br, .slice B Q.es.length d, .int .i64 Q.most] 33, box gz [.slice none 0 0, .bool false, .int .i64 0, .int .i64 0, .int .i64 0, .int .u64 0, .int .u64 0, .bool false, .slice none 0 0, .int .i64 0] 33]) := ⟨H2.out⟩
 clear H c_z z_z c_s c_q z_q
 have H := n_
 clear n_
 have c_s := H.out.cell (g := gs) mem2
 have c_q := H.out.cell (g := gq) mem3
 have z_q := H.out.frozen (g := gq) mem3
 have c_z := H.out.cell (g := gz) bT
 have z_z := H.out.frozen (g := gz) bT
 clear H2
 have hZD : D = Z := HD.out.trans HZ.out.symm
 subst hZD
 clear HD
 go_wp2_with (first
 |((with_reducible refine aV (t := 33) (p := 4) rfl ?_);
   refine bH (rs1 := [row k67 67 (.slice A1 (D.1.L.l).length c1) D.1.L.l, row k41 41 (.slice B1 (D.1.es).length d1) D.1.es, box gs [.int .u64 q] 28, box gq [.slice A Q.L.l.length c, .bool Q.L.dn, .int .i64 Q.L.fu, .int .i64 Q.L.fa, .int .i64 Q.L.size, .int .u64 Q.L.fr, .int .u64 Q.L.nx, .bool Q.L.br, .slice B Q.es.length d, .int .i64 Q.most] 33, box gz [.slice A1 D.1.L.l.length c1, .bool D.1.L.dn, .int .i64 D.1.L.fu, .int .i64 D.1.L.fa, .int .i64 D.1.L.size, .int .u64 D.1.L.fr, .int .u64 D.1.L.nx, .bool D.1.L.br, .slice B1 D.1.es.length d1, .int .i64 D.1.most] 33]) rfl (t := 33) (p := 4) rfl rfl ?hr (H1 := (Sep.dS (Sep.dS (Sep.dS (Sep.dS (Sep.dS (Sep.dS (Sep.dS (Sep.dS (Sep.dS (Sep.dS H.out 0 (.slice A1 D.1.L.l.length c1) rfl) 1 (.bool D.1.L.dn) rfl) 2 (.int .i64 D.1.L.fu) rfl) 3 (.int .i64 D.1.L.fa) rfl) 4 (.int .i64 D.1.L.size) rfl) 5 (.int .u64 D.1.L.fr) rfl) 6 (.int .u64 D.1.L.nx) rfl) 7 (.bool D.1.L.br) rfl) 8 (.slice B1 D.1.es.length d1) rfl) 9 (.int .i64 D.1.most) rfl)) ?_;
   (case hr => first | (go_simp; done) | (go_simp; rfl));
   intro qeq n_;
   clear H c_s c_q z_q c_z z_z;
   have H := n_;
   clear n_;
   have c_s := H.out.cell (g := gs) mem2;
   have c_q := H.out.cell (g := gq) mem3;
   have z_q := H.out.frozen (g := gq) mem3;
   have c_z := H.out.cell (g := gz) bT;
   have z_z := H.out.frozen (g := gz) bT)
 |fail)
 refine bodyPost_ret (dH (rs := [.cell 4 33, .tmp 5]) rfl (by simp) (.cell gz 33 _ _ _ rfl (H.out.jF (g := gz) bT) Tryz.underlying33 rfl info33 (.tmp .nil))) rfl ?_
 exact ⟨A1, c1, B1, d1, rfl, ⟨(Sep.drop2 (Sep.iJ (Sep.lC H.out)))⟩⟩
set_option maxHeartbeats 8000000 in
theorem YF (A : Option Addr) (c : Nat) (B : Option Addr) (d : Nat) (Q : Qu) (q : Int) (w : World) (hr : Kd.C k67 w A Q.L.l.length Q.L.l) (hc : Q.L.l.length ≤ c) (hre : Kd.C k41 w B Q.es.length Q.es) (hce : Q.es.length ≤ d) (hG : Gl w) (h0 : 0 ≤ Q.L.fr) (hnx : 0 ≤ Q.L.nx) (hnx2 : Q.L.nx < 18446744073709551616) (hq0 : 0 ≤ q) (hq1 : q < 18446744073709551616) :
  Calls Tryz.prog 22 #[.agg (qc A c B d Q).toArray, .int .u64 q] w fun e w' => ∃ A' c' B' d', e = .returned (.tuple #[.agg (qc A' c' B' d' (EI Q q).1).toArray, .int .i64 (EI Q q).2]) ∧ aC (Sep w w' [lV A' c' (EI Q q).1.L.l, rG B' d' (EI Q q).1.es]) := by
 have HRp := aC.mk hr
 have HCp := aC.mk hc
 have HRe := aC.mk hre
 have HCe := aC.mk hce
 have HG := aC.mk hG
 have HF := aC.mk h0
 have HN0 := aC.mk hnx
 have HN1 := aC.mk hnx2
 clear hr hc hre hce hG h0 hnx hnx2
 simp only [qc, lgc, List.cons_append, List.nil_append]
 obtain ⟨Z, hZ⟩ : ∃ Z, Z = (EI Q q) := ⟨_, rfl⟩
 rw [← hZ]
 have HZ := aC.mk hZ
 clear hZ
 have H := aC.mk (Sep.start w)
 have HQ0 := aC.mk hq0
 have HQ1 := aC.mk hq1
 clear hq0 hq1
 go_enter Tryz.func22, Tryz.ntmps22
 go_wp2_with (first
 |((with_reducible refine aU (N := 2) rfl ?_);
   refine bK rfl H (cs := [.slice A Q.L.l.length c, .bool Q.L.dn, .int .i64 Q.L.fu, .int .i64 Q.L.fa, .int .i64 Q.L.size, .int .u64 Q.L.fr, .int .u64 Q.L.nx, .bool Q.L.br, .slice B Q.es.length d, .int .i64 Q.most]) (t := 33) ?hr ?_;
   (case hr => first | (go_simp; done) | (go_simp; rfl));
   intro gq qg6 n_;
   simp only [Act.put, zA, zZ, zS];
   clear H;
   have H := n_;
   clear n_;
   have c_q := H.out.cell (g := gq) aP;
   have z_q := H.out.frozen (g := gq) aP)
 |((with_reducible refine aU (N := 3) rfl ?_);
   refine bK rfl H (cs := [.int .u64 q]) (t := 28) ?hr ?_;
   (case hr => first | (go_simp; done) | (go_simp; rfl));
   intro gs qg7 n_;
   simp only [Act.put, zA, zZ, zS];
   clear H c_q z_q;
   have H := n_;
   clear n_;
   have c_s := H.out.cell (g := gs) aP;
   have c_q := H.out.cell (g := gq) mem1;
   have z_q := H.out.frozen (g := gq) mem1)
 |((with_reducible refine aU (N := 4) rfl ?_);
   refine bK rfl H (cs := [.slice none 0 0, .bool false, .int .i64 0, .int .i64 0, .int .i64 0, .int .u64 0, .int .u64 0, .bool false, .slice none 0 0, .int .i64 0]) (t := 33) ?hr ?_;
   (case hr => first | (go_simp; done) | (go_simp; rfl));
   intro gz qg8 n_;
   simp only [Act.put, zA, zZ, zS];
   clear H c_s c_q z_q;
   have H := n_;
   clear n_;
   have c_z := H.out.cell (g := gz) aP;
   have z_z := H.out.frozen (g := gz) aP;
   have c_s := H.out.cell (g := gs) mem1;
   have c_q := H.out.cell (g := gq) mem2;
   have z_q := H.out.frozen (g := gq) mem2)
 |fail)
 obtain ⟨D, hD⟩ : ∃ D, D = jU Q (F9 Q q) := ⟨_, rfl⟩
 have HD := aC.mk hD
 refine (sH (fdo := 59) (lb := [.pointer (some ⟨gs, 0, none⟩)]) (rs := [box gs [.int .u64 q] 28, box gq [.slice A Q.L.l.length c, .bool Q.L.dn, .int .i64 Q.L.fu, .int .i64 Q.L.fa, .int .i64 Q.L.size, .int .u64 Q.L.fr, .int .u64 Q.L.nx, .bool Q.L.br, .slice B Q.es.length d, .int .i64 Q.most] 33, box gz [.slice none 0 0, .bool false, .int .i64 0, .int .i64 0, .int .i64 0, .int .u64 0, .int .u64 0, .bool false, .slice none 0 0, .int .i64 0] 33]) (rs2 := [box gs [.int .u64 q] 28, box gq [.slice A Q.L.l.length c, .bool Q.L.dn, .int .i64 Q.L.fu, .int .i64 Q.L.fa, .int .i64 Q.L.size, .int .u64 Q.L.fr, .int .u64 Q.L.nx, .bool Q.L.br, .slice B Q.es.length d, .int .i64 Q.most] 33, box gz [.slice none 0 0, .bool false, .int .i64 0, .int .i64 0, .int .i64 0, .int .u64 0, .int .u64 0, .bool false, .slice none 0 0, .int .i64 0] 33]) A c B d Q (F9 Q q) HRp.out HCp.out HRe.out HCe.out HF.out (fun args w => by simp [go_sem]) ⟨(Sep.iY (Sep.iY H.out))⟩ (fun hok hbr => qU (qdR w Q gs q HQ0.out HQ1.out HG.out HN0.out HN1.out HF.out hok) [box gq [.slice A Q.L.l.length c, .bool Q.L.dn, .int .i64 Q.L.fu, .int .i64 Q.L.fa, .int .i64 Q.L.size, .int .u64 Q.L.fr, .int .u64 Q.L.nx, .bool Q.L.br, .slice B Q.es.length d, .int .i64 Q.most] 33, box gz [.slice none 0 0, .bool false, .int .i64 0, .int .i64 0, .int .i64 0, .int .u64 0, .int .u64 0, .bool false, .slice none 0 0, .int .i64 0] 33]) (fun _ _ => rfl) (fun _ => rfl)).mono ?_
 rw [← hD]
 rintro e qer ⟨A1, c1, B1, d1, rfl, H2⟩
 clear hD
 simp only [qc, lgc, List.cons_append, List.nil_append]
 have n_ : aC (Sep w qer [row k67 67 (.slice A1 (D.1.L.l).length c1) D.1.L.l, row k41 41 (.slice B1 (D.1.es).length d1) D.1.es, box gs [.int .u64 q] 28, box gq [.slice A Q.L.l.length c, .bool Q.L.dn, .int .i64 Q.L.fu, .int .i64 Q.L.fa, .int .i64 Q.L.size, .int .u64 Q.L.fr, .int .u64 Q.L.nx, .bool Q.L.br, .slice B Q.es.length d, .int .i64 Q.most] 33, box gz [.slice none 0 0, .bool false, .int .i64 0, .int .i64 0, .int .i64 0, .int .u64 0, .int .u64 0, .bool false, .slice none 0 0, .int .i64 0] 33]) := ⟨H2.out⟩
 clear H c_z z_z c_s c_q z_q
 have H := n_
 clear n_
 have c_s := H.out.cell (g := gs) mem2
 have c_q := H.out.cell (g := gq) mem3
 have z_q := H.out.frozen (g := gq) mem3
 have c_z := H.out.cell (g := gz) bT
 have z_z := H.out.frozen (g := gz) bT
 clear H2
 have hZD : D = Z := HD.out.trans HZ.out.symm
 subst hZD
 clear HD
 go_wp2_with (first
 |((with_reducible refine aV (t := 33) (p := 4) rfl ?_);
   refine bH (rs1 := [row k67 67 (.slice A1 (D.1.L.l).length c1) D.1.L.l, row k41 41 (.slice B1 (D.1.es).length d1) D.1.es, box gs [.int .u64 q] 28, box gq [.slice A Q.L.l.length c, .bool Q.L.dn, .int .i64 Q.L.fu, .int .i64 Q.L.fa, .int .i64 Q.L.size, .int .u64 Q.L.fr, .int .u64 Q.L.nx, .bool Q.L.br, .slice B Q.es.length d, .int .i64 Q.most] 33, box gz [.slice A1 D.1.L.l.length c1, .bool D.1.L.dn, .int .i64 D.1.L.fu, .int .i64 D.1.L.fa, .int .i64 D.1.L.size, .int .u64 D.1.L.fr, .int .u64 D.1.L.nx, .bool D.1.L.br, .slice B1 D.1.es.length d1, .int .i64 D.1.most] 33]) rfl (t := 33) (p := 4) rfl rfl ?hr (H1 := (Sep.dS (Sep.dS (Sep.dS (Sep.dS (Sep.dS (Sep.dS (Sep.dS (Sep.dS (Sep.dS (Sep.dS H.out 0 (.slice A1 D.1.L.l.length c1) rfl) 1 (.bool D.1.L.dn) rfl) 2 (.int .i64 D.1.L.fu) rfl) 3 (.int .i64 D.1.L.fa) rfl) 4 (.int .i64 D.1.L.size) rfl) 5 (.int .u64 D.1.L.fr) rfl) 6 (.int .u64 D.1.L.nx) rfl) 7 (.bool D.1.L.br) rfl) 8 (.slice B1 D.1.es.length d1) rfl) 9 (.int .i64 D.1.most) rfl)) ?_;
   (case hr => first | (go_simp; done) | (go_simp; rfl));
   intro qg9 n_;
   clear H c_s c_q z_q c_z z_z;
   have H := n_;
   clear n_;
   have c_s := H.out.cell (g := gs) mem2;
   have c_q := H.out.cell (g := gq) mem3;
   have z_q := H.out.frozen (g := gq) mem3;
   have c_z := H.out.cell (g := gz) bT;
   have z_z := H.out.frozen (g := gz) bT)
 |fail)
 refine bodyPost_ret (dH (rs := [.cell 4 33, .tmp 5]) rfl (by simp) (.cell gz 33 _ _ _ rfl (H.out.jF (g := gz) bT) Tryz.underlying33 rfl info33 (.tmp .nil))) rfl ?_
 exact ⟨A1, c1, B1, d1, rfl, ⟨(Sep.drop2 (Sep.iJ (Sep.lC H.out)))⟩⟩
set_option maxHeartbeats 8000000 in
theorem qdS (A : Option Addr) (c : Nat) (B : Option Addr) (d : Nat) (Q : Qu) (k : Int) (sd : ByteArray) (sq : Int) (w : World) (hr : Kd.C k67 w A Q.L.l.length Q.L.l) (hc : Q.L.l.length ≤ c) (hre : Kd.C k41 w B Q.es.length Q.es) (hce : Q.es.length ≤ d) (hG : Gl w) (h0 : 0 ≤ Q.L.fr) (hnx : 0 ≤ Q.L.nx) (hnx2 : Q.L.nx < 18446744073709551616) (hq0 : 0 ≤ sq) (hq1 : sq < 18446744073709551616) :
  Calls Tryz.prog 42 #[.agg (qc A c B d Q).toArray, .agg #[.int .u8 k, .string sd, .int .u64 sq]] w fun e w' => ∃ A' c' B' d', e = .returned (.tuple #[.agg (qc A' c' B' d' (doQ Q k sd sq).1).toArray, .agg #[.int .u64 (doQ Q k sd sq).2.1.f0, .string (doQ Q k sd sq).2.1.f1, .bool (doQ Q k sd sq).2.1.f2], .int .i64 (doQ Q k sd sq).2.2]) ∧ aC (Sep w w' [lV A' c' (doQ Q k sd sq).1.L.l, rG B' d' (doQ Q k sd sq).1.es]) := by
 have HRp := aC.mk hr
 have HCp := aC.mk hc
 have HRe := aC.mk hre
 have HCe := aC.mk hce
 have HG := aC.mk hG
 have HF := aC.mk h0
 have HN0 := aC.mk hnx
 have HN1 := aC.mk hnx2
 clear hr hc hre hce hG h0 hnx hnx2
 simp only [qc, lgc, List.cons_append, List.nil_append]
 have H := aC.mk (Sep.start w)
 have HQ0 := aC.mk hq0
 have HQ1 := aC.mk hq1
 clear hq0 hq1
 obtain ⟨O, hO⟩ : ∃ O, O = doQ Q k sd sq := ⟨_, rfl⟩
 rw [← hO]
 have HO := aC.mk hO
 clear hO
 go_enter Tryz.func42, Tryz.ntmps42
 go_upto_region 3 with (first
 |((with_reducible refine aU (N := 2) rfl ?_);
   refine bK rfl H (cs := [.slice A Q.L.l.length c, .bool Q.L.dn, .int .i64 Q.L.fu, .int .i64 Q.L.fa, .int .i64 Q.L.size, .int .u64 Q.L.fr, .int .u64 Q.L.nx, .bool Q.L.br, .slice B Q.es.length d, .int .i64 Q.most]) (t := 33) ?hr ?_;
   (case hr => first | (go_simp; done) | (go_simp; rfl));
   intro gq qha n_;
   simp only [Act.put, zA, zZ, zS];
   clear H;
   have H := n_;
   clear n_;
   have c_q := H.out.cell (g := gq) aP)
 |((with_reducible refine aU (N := 3) rfl ?_);
   refine bK rfl H (cs := [.int .u8 k, .string sd, .int .u64 sq]) (t := 84) ?hr ?_;
   (case hr => first | (go_simp; done) | (go_simp; rfl));
   intro gt qhb n_;
   simp only [Act.put, zA, zZ, zS];
   clear H c_q;
   have H := n_;
   clear n_;
   have c_t := H.out.cell (g := gt) aP;
   have c_q := H.out.cell (g := gq) mem1)
 |((with_reducible refine aU (N := 4) rfl ?_);
   refine bK rfl H (cs := [.slice none 0 0, .bool false, .int .i64 0, .int .i64 0, .int .i64 0, .int .u64 0, .int .u64 0, .bool false, .slice none 0 0, .int .i64 0]) (t := 33) ?hr ?_;
   (case hr => first | (go_simp; done) | (go_simp; rfl));
   intro gz qhc n_;
   simp only [Act.put, zA, zZ, zS];
   clear H c_t c_q;
   have H := n_;
   clear n_;
   have c_z := H.out.cell (g := gz) aP;
   have c_t := H.out.cell (g := gt) mem1;
   have c_q := H.out.cell (g := gq) mem2)
 |((with_reducible refine aU (N := 5) rfl ?_);
   refine bK rfl H (cs := [.int .u64 0, .string ⟨#[]⟩, .bool false]) (t := 41) ?hr ?_;
   (case hr => first | (go_simp; done) | (go_simp; rfl));
   intro gy qhd n_;
   simp only [Act.put, zA, zZ, zS];
   clear H c_z c_t c_q;
   have H := n_;
   clear n_;
   have c_y := H.out.cell (g := gy) aP;
   have c_z := H.out.cell (g := gz) mem1;
   have c_t := H.out.cell (g := gt) mem2;
   have c_q := H.out.cell (g := gq) mem3)
 |((with_reducible refine aU (N := 7) rfl ?_);
   refine bK rfl H (cs := [.int .u64 0, .string ⟨#[]⟩, .bool false]) (t := 41) ?hr ?_;
   (case hr => first | (go_simp; done) | (go_simp; rfl));
   intro ge qhf n_;
   simp only [Act.put, zA, zZ, zS];
   clear H c_y c_z c_t c_q;
   have H := n_;
   clear n_;
   have c_e := H.out.cell (g := ge) aP;
   have c_y := H.out.cell (g := gy) mem1;
   have c_z := H.out.cell (g := gz) mem2;
   have c_t := H.out.cell (g := gt) mem3;
   have c_q := H.out.cell (g := gq) bT)
 |fail)
 by_cases hk1 : k = 1
 ·
  have hOV := HO.out
  rw [doQ, if_pos hk1] at hOV
  subst hk1
  skip
  go_wp2_with fail
  obtain ⟨D, hD⟩ : ∃ D, D = xJ Q sd := ⟨_, rfl⟩
  refine (put_any A c B d Q sd _ (H.out.came HRp.out) HCp.out (H.out.came HRe.out) HCe.out (HG.out.below H.out.below) HF.out HN0.out HN1.out).mono ?_
  rw [← hD] at hOV ⊢
  rintro e qhD ⟨A1, c1, B1, d1, rfl, HJ⟩
  clear hD
  simp only [qc, lgc, List.cons_append, List.nil_append]
  have n_ : aC (Sep w qhD [row k67 67 (.slice A1 (D.1.L.l).length c1) D.1.L.l, row k41 41 (.slice B1 (D.1.es).length d1) D.1.es, box ge [.int .u64 0, .string ⟨#[]⟩, .bool false] 41, box gy [.int .u64 0, .string ⟨#[]⟩, .bool false] 41, box gz [.slice none 0 0, .bool false, .int .i64 0, .int .i64 0, .int .i64 0, .int .u64 0, .int .u64 0, .bool false, .slice none 0 0, .int .i64 0] 33, box gt [.int .u8 1, .string sd, .int .u64 sq] 84, box gq [.slice A Q.L.l.length c, .bool Q.L.dn, .int .i64 Q.L.fu, .int .i64 Q.L.fa, .int .i64 Q.L.size, .int .u64 Q.L.fr, .int .u64 Q.L.nx, .bool Q.L.br, .slice B Q.es.length d, .int .i64 Q.most] 33]) := ⟨fM H.out HJ.out⟩
  clear H c_e c_y c_z c_t c_q
  have H := n_
  clear n_
  have c_e := H.out.cell (g := ge) mem2
  have c_y := H.out.cell (g := gy) mem3
  have c_z := H.out.cell (g := gz) bT
  have c_t := H.out.cell (g := gt) dM
  have c_q := H.out.cell (g := gq) jL
  clear HJ
  clear c_e c_y c_z c_t c_q
  have c_e := H.out.cell (g := ge) mem2
  have z_e := H.out.frozen (g := ge) mem2
  have c_y := H.out.cell (g := gy) mem3
  have z_y := H.out.frozen (g := gy) mem3
  have c_z := H.out.cell (g := gz) bT
  have z_z := H.out.frozen (g := gz) bT
  have c_t := H.out.cell (g := gt) dM
  have c_q := H.out.cell (g := gq) jL
  have z_q := H.out.frozen (g := gq) jL
  obtain ⟨S, hS⟩ : ∃ S, S = GH Q sd := ⟨_, rfl⟩
  rw [← hS] at hOV ⊢
  clear hS
  go_upto_region 13 with (first
 |((with_reducible refine aV (t := 33) (p := 2) rfl ?_);
   refine bH (rs1 := [row k67 67 (.slice A1 (D.1.L.l).length c1) D.1.L.l, row k41 41 (.slice B1 (D.1.es).length d1) D.1.es, box ge [.int .u64 0, .string ⟨#[]⟩, .bool false] 41, box gy [.int .u64 0, .string ⟨#[]⟩, .bool false] 41, box gz [.slice none 0 0, .bool false, .int .i64 0, .int .i64 0, .int .i64 0, .int .u64 0, .int .u64 0, .bool false, .slice none 0 0, .int .i64 0] 33, box gt [.int .u8 1, .string sd, .int .u64 sq] 84, box gq [.slice A1 D.1.L.l.length c1, .bool D.1.L.dn, .int .i64 D.1.L.fu, .int .i64 D.1.L.fa, .int .i64 D.1.L.size, .int .u64 D.1.L.fr, .int .u64 D.1.L.nx, .bool D.1.L.br, .slice B1 D.1.es.length d1, .int .i64 D.1.most] 33]) rfl (t := 33) (p := 2) rfl rfl ?hr (H1 := (Sep.kD (Sep.kD (Sep.kD (Sep.kD (Sep.kD (Sep.kD (Sep.kD (Sep.kD (Sep.kD (Sep.kD H.out 0 (.slice A1 D.1.L.l.length c1) rfl) 1 (.bool D.1.L.dn) rfl) 2 (.int .i64 D.1.L.fu) rfl) 3 (.int .i64 D.1.L.fa) rfl) 4 (.int .i64 D.1.L.size) rfl) 5 (.int .u64 D.1.L.fr) rfl) 6 (.int .u64 D.1.L.nx) rfl) 7 (.bool D.1.L.br) rfl) 8 (.slice B1 D.1.es.length d1) rfl) 9 (.int .i64 D.1.most) rfl)) ?_;
   (case hr => first | (go_simp; done) | (go_simp; rfl));
   intro qiv n_;
   clear H c_e z_e c_y z_y c_z z_z c_t c_q z_q;
   have H := n_;
   clear n_;
   have c_e := H.out.cell (g := ge) mem2;
   have z_e := H.out.frozen (g := ge) mem2;
   have c_y := H.out.cell (g := gy) mem3;
   have z_y := H.out.frozen (g := gy) mem3;
   have c_z := H.out.cell (g := gz) bT;
   have z_z := H.out.frozen (g := gz) bT;
   have c_t := H.out.cell (g := gt) dM;
   have c_q := H.out.cell (g := gq) jL;
   have z_q := H.out.frozen (g := gq) jL)
 |((with_reducible refine aV (t := 28) (p := 26) rfl ?_);
   refine bH (rs1 := [row k67 67 (.slice A1 (D.1.L.l).length c1) D.1.L.l, row k41 41 (.slice B1 (D.1.es).length d1) D.1.es, box ge [.int .u64 S, .string ⟨#[]⟩, .bool false] 41, box gy [.int .u64 0, .string ⟨#[]⟩, .bool false] 41, box gz [.slice none 0 0, .bool false, .int .i64 0, .int .i64 0, .int .i64 0, .int .u64 0, .int .u64 0, .bool false, .slice none 0 0, .int .i64 0] 33, box gt [.int .u8 1, .string sd, .int .u64 sq] 84, box gq [.slice A1 D.1.L.l.length c1, .bool D.1.L.dn, .int .i64 D.1.L.fu, .int .i64 D.1.L.fa, .int .i64 D.1.L.size, .int .u64 D.1.L.fr, .int .u64 D.1.L.nx, .bool D.1.L.br, .slice B1 D.1.es.length d1, .int .i64 D.1.most] 33]) rfl (t := 28) (p := 26) rfl rfl ?hr (H1 := (Sep.set2 H.out 0 (.int .u64 S) rfl)) ?_;
   (case hr => first | (go_simp; done) | (go_simp; rfl));
   intro qiw n_;
   clear H c_e z_e c_y z_y c_z z_z c_t c_q z_q;
   have H := n_;
   clear n_;
   have c_e := H.out.cell (g := ge) mem2;
   have z_e := H.out.frozen (g := ge) mem2;
   have c_y := H.out.cell (g := gy) mem3;
   have z_y := H.out.frozen (g := gy) mem3;
   have c_z := H.out.cell (g := gz) bT;
   have z_z := H.out.frozen (g := gz) bT;
   have c_t := H.out.cell (g := gt) dM;
   have c_q := H.out.cell (g := gq) jL;
   have z_q := H.out.frozen (g := gq) jL)
 |fail)
  have sJ : ¬ gz = gq := iF H.out (i := 4) (j := 6) rfl rfl (by decide)
  have uO : ¬ gq = gz := fun e => sJ e.symm
  have uP : ¬ gy = gq := iF H.out (i := 3) (j := 6) rfl rfl (by decide)
  have yT : ¬ gq = gy := fun e => uP e.symm
  have xK : ¬ ge = gz := iF H.out (i := 2) (j := 4) rfl rfl (by decide)
  have JZ : ¬ gz = ge := fun e => xK e.symm
  have xM : ¬ ge = gy := iF H.out (i := 2) (j := 3) rfl rfl (by decide)
  have J3 : ¬ gy = ge := fun e => xM e.symm
  have uQ : ¬ gy = gz := iF H.out (i := 3) (j := 4) rfl rfl (by decide)
  have yU : ¬ gz = gy := fun e => uQ e.symm
  go_upto_region 13 with fail
  go_region
  refine qI (rs := [row k67 67 (.slice A1 (D.1.L.l).length c1) D.1.L.l, row k41 41 (.slice B1 (D.1.es).length d1) D.1.es, box ge [.int .u64 S, .string ⟨#[]⟩, .bool false] 41, box gy [.int .u64 S, .string ⟨#[]⟩, .bool false] 41, box gz [.slice A1 D.1.L.l.length c1, .bool D.1.L.dn, .int .i64 D.1.L.fu, .int .i64 D.1.L.fa, .int .i64 D.1.L.size, .int .u64 D.1.L.fr, .int .u64 D.1.L.nx, .bool D.1.L.br, .slice B1 D.1.es.length d1, .int .i64 D.1.most] 33, box gt [.int .u8 1, .string sd, .int .u64 sq] 84, box gq [.slice A1 D.1.L.l.length c1, .bool D.1.L.dn, .int .i64 D.1.L.fu, .int .i64 D.1.L.fa, .int .i64 D.1.L.size, .int .u64 D.1.L.fr, .int .u64 D.1.L.nx, .bool D.1.L.br, .slice B1 D.1.es.length d1, .int .i64 D.1.most] 33]) (Sep.drew (Sep.dY (Sep.dY (Sep.dY (Sep.dS (Sep.dS (Sep.dS (Sep.dS (Sep.dS (Sep.dS (Sep.dS (Sep.dS (Sep.dS (Sep.dS H.out 0 (.slice A1 D.1.L.l.length c1) rfl) 1 (.bool D.1.L.dn) rfl) 2 (.int .i64 D.1.L.fu) rfl) 3 (.int .i64 D.1.L.fa) rfl) 4 (.int .i64 D.1.L.size) rfl) 5 (.int .u64 D.1.L.fr) rfl) 6 (.int .u64 D.1.L.nx) rfl) 7 (.bool D.1.L.br) rfl) 8 (.slice B1 D.1.es.length d1) rfl) 9 (.int .i64 D.1.most) rfl) 0 (.int .u64 S) rfl) 1 (.string ⟨#[]⟩) rfl) 2 (.bool false) rfl)) ?_
  intro qix n_
  clear H c_e z_e c_y z_y c_z z_z c_t c_q z_q
  have H := n_
  clear n_
  have c_e := H.out.cell (g := ge) mem2
  have z_e := H.out.frozen (g := ge) mem2
  have c_y := H.out.cell (g := gy) mem3
  have z_y := H.out.frozen (g := gy) mem3
  have c_z := H.out.cell (g := gz) bT
  have z_z := H.out.frozen (g := gz) bT
  have c_t := H.out.cell (g := gt) dM
  have c_q := H.out.cell (g := gq) jL
  have z_q := H.out.frozen (g := gq) jL
  clear uO sJ yT uP xK JZ xM J3 yU uQ
  go_wp2_with fail
  refine bodyPost_ret (dH (rs := [.cell 4 33, .cell 5 41, .tmp 6]) rfl (by simp) (.cell gz 33 _ _ _ rfl (H.out.jF (g := gz) bT) Tryz.underlying33 rfl info33 (.cell gy 41 _ _ _ rfl (H.out.jF (g := gy) mem3) Tryz.underlying41 rfl xZ (.tmp .nil)))) rfl ?_
  subst hOV
  exact ⟨A1, c1, B1, d1, rfl, ⟨(Sep.drop2 (Sep.iJ (Sep.lC (Sep.sQ (Sep.CP H.out)))))⟩⟩
 ·
  by_cases hk2 : k = 2
  ·
   have hOV := HO.out
   rw [doQ, if_neg hk1, if_pos hk2] at hOV
   subst hk2
   clear hk1
   go_wp2_with fail
   obtain ⟨D, hD⟩ : ∃ D, D = lZ Q := ⟨_, rfl⟩
   refine (LV A c B d Q _ (H.out.came HRp.out) HCp.out (H.out.came HRe.out) HCe.out (HG.out.below H.out.below) HF.out HN0.out HN1.out).mono ?_
   rw [← hD] at hOV ⊢
   rintro e qhE ⟨A1, c1, B1, d1, rfl, HJ⟩
   clear hD
   simp only [qc, lgc, List.cons_append, List.nil_append]
   have n_ : aC (Sep w qhE [row k67 67 (.slice A1 (D.1.L.l).length c1) D.1.L.l, row k41 41 (.slice B1 (D.1.es).length d1) D.1.es, box ge [.int .u64 0, .string ⟨#[]⟩, .bool false] 41, box gy [.int .u64 0, .string ⟨#[]⟩, .bool false] 41, box gz [.slice none 0 0, .bool false, .int .i64 0, .int .i64 0, .int .i64 0, .int .u64 0, .int .u64 0, .bool false, .slice none 0 0, .int .i64 0] 33, box gt [.int .u8 2, .string sd, .int .u64 sq] 84, box gq [.slice A Q.L.l.length c, .bool Q.L.dn, .int .i64 Q.L.fu, .int .i64 Q.L.fa, .int .i64 Q.L.size, .int .u64 Q.L.fr, .int .u64 Q.L.nx, .bool Q.L.br, .slice B Q.es.length d, .int .i64 Q.most] 33]) := ⟨fM H.out HJ.out⟩
   clear H c_e c_y c_z c_t c_q
   have H := n_
   clear n_
   have c_e := H.out.cell (g := ge) mem2
   have c_y := H.out.cell (g := gy) mem3
   have c_z := H.out.cell (g := gz) bT
   have c_t := H.out.cell (g := gt) dM
   have c_q := H.out.cell (g := gq) jL
   clear HJ
   obtain ⟨X, hX⟩ : ∃ X, X = kR Q := ⟨_, rfl⟩
   rw [← hX] at hOV ⊢
   clear hX
   clear c_e c_y c_z c_t c_q
   have c_e := H.out.cell (g := ge) mem2
   have c_y := H.out.cell (g := gy) mem3
   have z_y := H.out.frozen (g := gy) mem3
   have c_z := H.out.cell (g := gz) bT
   have z_z := H.out.frozen (g := gz) bT
   have c_t := H.out.cell (g := gt) dM
   have c_q := H.out.cell (g := gq) jL
   go_wp2_with (first
 |((with_reducible refine aV (t := 33) (p := 4) rfl ?_);
   refine bH (rs1 := [row k67 67 (.slice A1 (D.1.L.l).length c1) D.1.L.l, row k41 41 (.slice B1 (D.1.es).length d1) D.1.es, box ge [.int .u64 0, .string ⟨#[]⟩, .bool false] 41, box gy [.int .u64 0, .string ⟨#[]⟩, .bool false] 41, box gz [.slice A1 D.1.L.l.length c1, .bool D.1.L.dn, .int .i64 D.1.L.fu, .int .i64 D.1.L.fa, .int .i64 D.1.L.size, .int .u64 D.1.L.fr, .int .u64 D.1.L.nx, .bool D.1.L.br, .slice B1 D.1.es.length d1, .int .i64 D.1.most] 33, box gt [.int .u8 2, .string sd, .int .u64 sq] 84, box gq [.slice A Q.L.l.length c, .bool Q.L.dn, .int .i64 Q.L.fu, .int .i64 Q.L.fa, .int .i64 Q.L.size, .int .u64 Q.L.fr, .int .u64 Q.L.nx, .bool Q.L.br, .slice B Q.es.length d, .int .i64 Q.most] 33]) rfl (t := 33) (p := 4) rfl rfl ?hr (H1 := (Sep.dS (Sep.dS (Sep.dS (Sep.dS (Sep.dS (Sep.dS (Sep.dS (Sep.dS (Sep.dS (Sep.dS H.out 0 (.slice A1 D.1.L.l.length c1) rfl) 1 (.bool D.1.L.dn) rfl) 2 (.int .i64 D.1.L.fu) rfl) 3 (.int .i64 D.1.L.fa) rfl) 4 (.int .i64 D.1.L.size) rfl) 5 (.int .u64 D.1.L.fr) rfl) 6 (.int .u64 D.1.L.nx) rfl) 7 (.bool D.1.L.br) rfl) 8 (.slice B1 D.1.es.length d1) rfl) 9 (.int .i64 D.1.most) rfl)) ?_;
   (case hr => first | (go_simp; done) | (go_simp; rfl));
   intro qiy n_;
   clear H c_e c_y z_y c_z z_z c_t c_q;
   have H := n_;
   clear n_;
   have c_e := H.out.cell (g := ge) mem2;
   have c_y := H.out.cell (g := gy) mem3;
   have z_y := H.out.frozen (g := gy) mem3;
   have c_z := H.out.cell (g := gz) bT;
   have z_z := H.out.frozen (g := gz) bT;
   have c_t := H.out.cell (g := gt) dM;
   have c_q := H.out.cell (g := gq) jL)
 |((with_reducible refine aV (t := 41) (p := 5) rfl ?_);
   refine bH (rs1 := [row k67 67 (.slice A1 (D.1.L.l).length c1) D.1.L.l, row k41 41 (.slice B1 (D.1.es).length d1) D.1.es, box ge [.int .u64 0, .string ⟨#[]⟩, .bool false] 41, box gy [.int .u64 X.f0, .string X.f1, .bool X.f2] 41, box gz [.slice A1 D.1.L.l.length c1, .bool D.1.L.dn, .int .i64 D.1.L.fu, .int .i64 D.1.L.fa, .int .i64 D.1.L.size, .int .u64 D.1.L.fr, .int .u64 D.1.L.nx, .bool D.1.L.br, .slice B1 D.1.es.length d1, .int .i64 D.1.most] 33, box gt [.int .u8 2, .string sd, .int .u64 sq] 84, box gq [.slice A Q.L.l.length c, .bool Q.L.dn, .int .i64 Q.L.fu, .int .i64 Q.L.fa, .int .i64 Q.L.size, .int .u64 Q.L.fr, .int .u64 Q.L.nx, .bool Q.L.br, .slice B Q.es.length d, .int .i64 Q.most] 33]) rfl (t := 41) (p := 5) rfl rfl ?hr (H1 := (Sep.dY (Sep.dY (Sep.dY H.out 0 (.int .u64 X.f0) rfl) 1 (.string X.f1) rfl) 2 (.bool X.f2) rfl)) ?_;
   (case hr => first | (go_simp; done) | (go_simp; rfl));
   intro qiz n_;
   clear H c_e c_y z_y c_z z_z c_t c_q;
   have H := n_;
   clear n_;
   have c_e := H.out.cell (g := ge) mem2;
   have c_y := H.out.cell (g := gy) mem3;
   have z_y := H.out.frozen (g := gy) mem3;
   have c_z := H.out.cell (g := gz) bT;
   have z_z := H.out.frozen (g := gz) bT;
   have c_t := H.out.cell (g := gt) dM;
   have c_q := H.out.cell (g := gq) jL)
 |fail)
   refine bodyPost_ret (dH (rs := [.cell 4 33, .cell 5 41, .tmp 6]) rfl (by simp) (.cell gz 33 _ _ _ rfl (H.out.jF (g := gz) bT) Tryz.underlying33 rfl info33 (.cell gy 41 _ _ _ rfl (H.out.jF (g := gy) mem3) Tryz.underlying41 rfl xZ (.tmp .nil)))) rfl ?_
   subst hOV
   exact ⟨A1, c1, B1, d1, rfl, ⟨(Sep.drop2 (Sep.iJ (Sep.lC (Sep.sQ (Sep.CP H.out)))))⟩⟩
  ·
   by_cases hk3 : k = 3
   ·
    have hOV := HO.out
    rw [doQ, if_neg hk1, if_neg hk2, if_pos hk3] at hOV
    subst hk3
    clear hk1 hk2
    go_wp2_with fail
    obtain ⟨D, hD⟩ : ∃ D, D = oJ Q sq := ⟨_, rfl⟩
    refine (RN A c B d Q sq _ (H.out.came HRp.out) HCp.out (H.out.came HRe.out) HCe.out (HG.out.below H.out.below) HF.out HN0.out HN1.out HQ0.out HQ1.out).mono ?_
    rw [← hD] at hOV ⊢
    rintro e qhF ⟨A1, c1, B1, d1, rfl, HJ⟩
    clear hD
    simp only [qc, lgc, List.cons_append, List.nil_append]
    have n_ : aC (Sep w qhF [row k67 67 (.slice A1 (D.1.L.l).length c1) D.1.L.l, row k41 41 (.slice B1 (D.1.es).length d1) D.1.es, box ge [.int .u64 0, .string ⟨#[]⟩, .bool false] 41, box gy [.int .u64 0, .string ⟨#[]⟩, .bool false] 41, box gz [.slice none 0 0, .bool false, .int .i64 0, .int .i64 0, .int .i64 0, .int .u64 0, .int .u64 0, .bool false, .slice none 0 0, .int .i64 0] 33, box gt [.int .u8 3, .string sd, .int .u64 sq] 84, box gq [.slice A Q.L.l.length c, .bool Q.L.dn, .int .i64 Q.L.fu, .int .i64 Q.L.fa, .int .i64 Q.L.size, .int .u64 Q.L.fr, .int .u64 Q.L.nx, .bool Q.L.br, .slice B Q.es.length d, .int .i64 Q.most] 33]) := ⟨fM H.out HJ.out⟩
    clear H c_e c_y c_z c_t c_q
    have H := n_
    clear n_
    have c_e := H.out.cell (g := ge) mem2
    have c_y := H.out.cell (g := gy) mem3
    have c_z := H.out.cell (g := gz) bT
    have c_t := H.out.cell (g := gt) dM
    have c_q := H.out.cell (g := gq) jL
    clear HJ
    clear c_e c_y c_z c_t c_q
    have c_e := H.out.cell (g := ge) mem2
    have z_e := H.out.frozen (g := ge) mem2
    have c_y := H.out.cell (g := gy) mem3
    have z_y := H.out.frozen (g := gy) mem3
    have c_z := H.out.cell (g := gz) bT
    have z_z := H.out.frozen (g := gz) bT
    have c_t := H.out.cell (g := gt) dM
    have c_q := H.out.cell (g := gq) jL
    have z_q := H.out.frozen (g := gq) jL
    go_upto_region 13 with (first
 |((with_reducible refine aV (t := 33) (p := 2) rfl ?_);
   refine bH (rs1 := [row k67 67 (.slice A1 (D.1.L.l).length c1) D.1.L.l, row k41 41 (.slice B1 (D.1.es).length d1) D.1.es, box ge [.int .u64 0, .string ⟨#[]⟩, .bool false] 41, box gy [.int .u64 0, .string ⟨#[]⟩, .bool false] 41, box gz [.slice none 0 0, .bool false, .int .i64 0, .int .i64 0, .int .i64 0, .int .u64 0, .int .u64 0, .bool false, .slice none 0 0, .int .i64 0] 33, box gt [.int .u8 3, .string sd, .int .u64 sq] 84, box gq [.slice A1 D.1.L.l.length c1, .bool D.1.L.dn, .int .i64 D.1.L.fu, .int .i64 D.1.L.fa, .int .i64 D.1.L.size, .int .u64 D.1.L.fr, .int .u64 D.1.L.nx, .bool D.1.L.br, .slice B1 D.1.es.length d1, .int .i64 D.1.most] 33]) rfl (t := 33) (p := 2) rfl rfl ?hr (H1 := (Sep.kD (Sep.kD (Sep.kD (Sep.kD (Sep.kD (Sep.kD (Sep.kD (Sep.kD (Sep.kD (Sep.kD H.out 0 (.slice A1 D.1.L.l.length c1) rfl) 1 (.bool D.1.L.dn) rfl) 2 (.int .i64 D.1.L.fu) rfl) 3 (.int .i64 D.1.L.fa) rfl) 4 (.int .i64 D.1.L.size) rfl) 5 (.int .u64 D.1.L.fr) rfl) 6 (.int .u64 D.1.L.nx) rfl) 7 (.bool D.1.L.br) rfl) 8 (.slice B1 D.1.es.length d1) rfl) 9 (.int .i64 D.1.most) rfl)) ?_;
   (case hr => first | (go_simp; done) | (go_simp; rfl));
   intro qiA n_;
   clear H c_e z_e c_y z_y c_z z_z c_t c_q z_q;
   have H := n_;
   clear n_;
   have c_e := H.out.cell (g := ge) mem2;
   have z_e := H.out.frozen (g := ge) mem2;
   have c_y := H.out.cell (g := gy) mem3;
   have z_y := H.out.frozen (g := gy) mem3;
   have c_z := H.out.cell (g := gz) bT;
   have z_z := H.out.frozen (g := gz) bT;
   have c_t := H.out.cell (g := gt) dM;
   have c_q := H.out.cell (g := gq) jL;
   have z_q := H.out.frozen (g := gq) jL)
 |fail)
    have sJ : ¬ gz = gq := iF H.out (i := 4) (j := 6) rfl rfl (by decide)
    have uO : ¬ gq = gz := fun e => sJ e.symm
    have uP : ¬ gy = gq := iF H.out (i := 3) (j := 6) rfl rfl (by decide)
    have yT : ¬ gq = gy := fun e => uP e.symm
    have xK : ¬ ge = gz := iF H.out (i := 2) (j := 4) rfl rfl (by decide)
    have JZ : ¬ gz = ge := fun e => xK e.symm
    have xM : ¬ ge = gy := iF H.out (i := 2) (j := 3) rfl rfl (by decide)
    have J3 : ¬ gy = ge := fun e => xM e.symm
    have uQ : ¬ gy = gz := iF H.out (i := 3) (j := 4) rfl rfl (by decide)
    have yU : ¬ gz = gy := fun e => uQ e.symm
    go_upto_region 13 with fail
    go_region
    refine qI (rs := [row k67 67 (.slice A1 (D.1.L.l).length c1) D.1.L.l, row k41 41 (.slice B1 (D.1.es).length d1) D.1.es, box ge [.int .u64 0, .string ⟨#[]⟩, .bool false] 41, box gy [.int .u64 0, .string ⟨#[]⟩, .bool false] 41, box gz [.slice A1 D.1.L.l.length c1, .bool D.1.L.dn, .int .i64 D.1.L.fu, .int .i64 D.1.L.fa, .int .i64 D.1.L.size, .int .u64 D.1.L.fr, .int .u64 D.1.L.nx, .bool D.1.L.br, .slice B1 D.1.es.length d1, .int .i64 D.1.most] 33, box gt [.int .u8 3, .string sd, .int .u64 sq] 84, box gq [.slice A1 D.1.L.l.length c1, .bool D.1.L.dn, .int .i64 D.1.L.fu, .int .i64 D.1.L.fa, .int .i64 D.1.L.size, .int .u64 D.1.L.fr, .int .u64 D.1.L.nx, .bool D.1.L.br, .slice B1 D.1.es.length d1, .int .i64 D.1.most] 33]) (Sep.drew (Sep.dY (Sep.dY (Sep.dY (Sep.dS (Sep.dS (Sep.dS (Sep.dS (Sep.dS (Sep.dS (Sep.dS (Sep.dS (Sep.dS (Sep.dS H.out 0 (.slice A1 D.1.L.l.length c1) rfl) 1 (.bool D.1.L.dn) rfl) 2 (.int .i64 D.1.L.fu) rfl) 3 (.int .i64 D.1.L.fa) rfl) 4 (.int .i64 D.1.L.size) rfl) 5 (.int .u64 D.1.L.fr) rfl) 6 (.int .u64 D.1.L.nx) rfl) 7 (.bool D.1.L.br) rfl) 8 (.slice B1 D.1.es.length d1) rfl) 9 (.int .i64 D.1.most) rfl) 0 (.int .u64 0) rfl) 1 (.string ⟨#[]⟩) rfl) 2 (.bool false) rfl)) ?_
    intro qiB n_
    clear H c_e z_e c_y z_y c_z z_z c_t c_q z_q
    have H := n_
    clear n_
    have c_e := H.out.cell (g := ge) mem2
    have z_e := H.out.frozen (g := ge) mem2
    have c_y := H.out.cell (g := gy) mem3
    have z_y := H.out.frozen (g := gy) mem3
    have c_z := H.out.cell (g := gz) bT
    have z_z := H.out.frozen (g := gz) bT
    have c_t := H.out.cell (g := gt) dM
    have c_q := H.out.cell (g := gq) jL
    have z_q := H.out.frozen (g := gq) jL
    clear uO sJ yT uP xK JZ xM J3 yU uQ
    go_wp2_with fail
    refine bodyPost_ret (dH (rs := [.cell 4 33, .cell 5 41, .tmp 6]) rfl (by simp) (.cell gz 33 _ _ _ rfl (H.out.jF (g := gz) bT) Tryz.underlying33 rfl info33 (.cell gy 41 _ _ _ rfl (H.out.jF (g := gy) mem3) Tryz.underlying41 rfl xZ (.tmp .nil)))) rfl ?_
    subst hOV
    exact ⟨A1, c1, B1, d1, rfl, ⟨(Sep.drop2 (Sep.iJ (Sep.lC (Sep.sQ (Sep.CP H.out)))))⟩⟩
   ·
    by_cases hk4 : k = 4
    ·
     have hOV := HO.out
     rw [doQ, if_neg hk1, if_neg hk2, if_neg hk3, if_pos hk4] at hOV
     subst hk4
     clear hk1 hk2 hk3
     go_wp2_with fail
     obtain ⟨D, hD⟩ : ∃ D, D = EI Q sq := ⟨_, rfl⟩
     refine (YF A c B d Q sq _ (H.out.came HRp.out) HCp.out (H.out.came HRe.out) HCe.out (HG.out.below H.out.below) HF.out HN0.out HN1.out HQ0.out HQ1.out).mono ?_
     rw [← hD] at hOV ⊢
     rintro e qhG ⟨A1, c1, B1, d1, rfl, HJ⟩
     clear hD
     simp only [qc, lgc, List.cons_append, List.nil_append]
     have n_ : aC (Sep w qhG [row k67 67 (.slice A1 (D.1.L.l).length c1) D.1.L.l, row k41 41 (.slice B1 (D.1.es).length d1) D.1.es, box ge [.int .u64 0, .string ⟨#[]⟩, .bool false] 41, box gy [.int .u64 0, .string ⟨#[]⟩, .bool false] 41, box gz [.slice none 0 0, .bool false, .int .i64 0, .int .i64 0, .int .i64 0, .int .u64 0, .int .u64 0, .bool false, .slice none 0 0, .int .i64 0] 33, box gt [.int .u8 4, .string sd, .int .u64 sq] 84, box gq [.slice A Q.L.l.length c, .bool Q.L.dn, .int .i64 Q.L.fu, .int .i64 Q.L.fa, .int .i64 Q.L.size, .int .u64 Q.L.fr, .int .u64 Q.L.nx, .bool Q.L.br, .slice B Q.es.length d, .int .i64 Q.most] 33]) := ⟨fM H.out HJ.out⟩
     clear H c_e c_y c_z c_t c_q
     have H := n_
     clear n_
     have c_e := H.out.cell (g := ge) mem2
     have c_y := H.out.cell (g := gy) mem3
     have c_z := H.out.cell (g := gz) bT
     have c_t := H.out.cell (g := gt) dM
     have c_q := H.out.cell (g := gq) jL
     clear HJ
     clear c_e c_y c_z c_t c_q
     have c_e := H.out.cell (g := ge) mem2
     have z_e := H.out.frozen (g := ge) mem2
     have c_y := H.out.cell (g := gy) mem3
     have z_y := H.out.frozen (g := gy) mem3
     have c_z := H.out.cell (g := gz) bT
     have z_z := H.out.frozen (g := gz) bT
     have c_t := H.out.cell (g := gt) dM
     have c_q := H.out.cell (g := gq) jL
     have z_q := H.out.frozen (g := gq) jL
     go_upto_region 13 with (first
 |((with_reducible refine aV (t := 33) (p := 2) rfl ?_);
   refine bH (rs1 := [row k67 67 (.slice A1 (D.1.L.l).length c1) D.1.L.l, row k41 41 (.slice B1 (D.1.es).length d1) D.1.es, box ge [.int .u64 0, .string ⟨#[]⟩, .bool false] 41, box gy [.int .u64 0, .string ⟨#[]⟩, .bool false] 41, box gz [.slice none 0 0, .bool false, .int .i64 0, .int .i64 0, .int .i64 0, .int .u64 0, .int .u64 0, .bool false, .slice none 0 0, .int .i64 0] 33, box gt [.int .u8 4, .string sd, .int .u64 sq] 84, box gq [.slice A1 D.1.L.l.length c1, .bool D.1.L.dn, .int .i64 D.1.L.fu, .int .i64 D.1.L.fa, .int .i64 D.1.L.size, .int .u64 D.1.L.fr, .int .u64 D.1.L.nx, .bool D.1.L.br, .slice B1 D.1.es.length d1, .int .i64 D.1.most] 33]) rfl (t := 33) (p := 2) rfl rfl ?hr (H1 := (Sep.kD (Sep.kD (Sep.kD (Sep.kD (Sep.kD (Sep.kD (Sep.kD (Sep.kD (Sep.kD (Sep.kD H.out 0 (.slice A1 D.1.L.l.length c1) rfl) 1 (.bool D.1.L.dn) rfl) 2 (.int .i64 D.1.L.fu) rfl) 3 (.int .i64 D.1.L.fa) rfl) 4 (.int .i64 D.1.L.size) rfl) 5 (.int .u64 D.1.L.fr) rfl) 6 (.int .u64 D.1.L.nx) rfl) 7 (.bool D.1.L.br) rfl) 8 (.slice B1 D.1.es.length d1) rfl) 9 (.int .i64 D.1.most) rfl)) ?_;
   (case hr => first | (go_simp; done) | (go_simp; rfl));
   intro qiC n_;
   clear H c_e z_e c_y z_y c_z z_z c_t c_q z_q;
   have H := n_;
   clear n_;
   have c_e := H.out.cell (g := ge) mem2;
   have z_e := H.out.frozen (g := ge) mem2;
   have c_y := H.out.cell (g := gy) mem3;
   have z_y := H.out.frozen (g := gy) mem3;
   have c_z := H.out.cell (g := gz) bT;
   have z_z := H.out.frozen (g := gz) bT;
   have c_t := H.out.cell (g := gt) dM;
   have c_q := H.out.cell (g := gq) jL;
   have z_q := H.out.frozen (g := gq) jL)
 |fail)
     have sJ : ¬ gz = gq := iF H.out (i := 4) (j := 6) rfl rfl (by decide)
     have uO : ¬ gq = gz := fun e => sJ e.symm
     have uP : ¬ gy = gq := iF H.out (i := 3) (j := 6) rfl rfl (by decide)
     have yT : ¬ gq = gy := fun e => uP e.symm
     have xK : ¬ ge = gz := iF H.out (i := 2) (j := 4) rfl rfl (by decide)
     have JZ : ¬ gz = ge := fun e => xK e.symm
     have xM : ¬ ge = gy := iF H.out (i := 2) (j := 3) rfl rfl (by decide)
     have J3 : ¬ gy = ge := fun e => xM e.symm
     have uQ : ¬ gy = gz := iF H.out (i := 3) (j := 4) rfl rfl (by decide)
     have yU : ¬ gz = gy := fun e => uQ e.symm
     go_upto_region 13 with fail
     go_region
     refine qI (rs := [row k67 67 (.slice A1 (D.1.L.l).length c1) D.1.L.l, row k41 41 (.slice B1 (D.1.es).length d1) D.1.es, box ge [.int .u64 0, .string ⟨#[]⟩, .bool false] 41, box gy [.int .u64 0, .string ⟨#[]⟩, .bool false] 41, box gz [.slice A1 D.1.L.l.length c1, .bool D.1.L.dn, .int .i64 D.1.L.fu, .int .i64 D.1.L.fa, .int .i64 D.1.L.size, .int .u64 D.1.L.fr, .int .u64 D.1.L.nx, .bool D.1.L.br, .slice B1 D.1.es.length d1, .int .i64 D.1.most] 33, box gt [.int .u8 4, .string sd, .int .u64 sq] 84, box gq [.slice A1 D.1.L.l.length c1, .bool D.1.L.dn, .int .i64 D.1.L.fu, .int .i64 D.1.L.fa, .int .i64 D.1.L.size, .int .u64 D.1.L.fr, .int .u64 D.1.L.nx, .bool D.1.L.br, .slice B1 D.1.es.length d1, .int .i64 D.1.most] 33]) (Sep.drew (Sep.dY (Sep.dY (Sep.dY (Sep.dS (Sep.dS (Sep.dS (Sep.dS (Sep.dS (Sep.dS (Sep.dS (Sep.dS (Sep.dS (Sep.dS H.out 0 (.slice A1 D.1.L.l.length c1) rfl) 1 (.bool D.1.L.dn) rfl) 2 (.int .i64 D.1.L.fu) rfl) 3 (.int .i64 D.1.L.fa) rfl) 4 (.int .i64 D.1.L.size) rfl) 5 (.int .u64 D.1.L.fr) rfl) 6 (.int .u64 D.1.L.nx) rfl) 7 (.bool D.1.L.br) rfl) 8 (.slice B1 D.1.es.length d1) rfl) 9 (.int .i64 D.1.most) rfl) 0 (.int .u64 0) rfl) 1 (.string ⟨#[]⟩) rfl) 2 (.bool false) rfl)) ?_
     intro qiD n_
     clear H c_e z_e c_y z_y c_z z_z c_t c_q z_q
     have H := n_
     clear n_
     have c_e := H.out.cell (g := ge) mem2
     have z_e := H.out.frozen (g := ge) mem2
     have c_y := H.out.cell (g := gy) mem3
     have z_y := H.out.frozen (g := gy) mem3
     have c_z := H.out.cell (g := gz) bT
     have z_z := H.out.frozen (g := gz) bT
     have c_t := H.out.cell (g := gt) dM
     have c_q := H.out.cell (g := gq) jL
     have z_q := H.out.frozen (g := gq) jL
     clear uO sJ yT uP xK JZ xM J3 yU uQ
     go_wp2_with fail
     refine bodyPost_ret (dH (rs := [.cell 4 33, .cell 5 41, .tmp 6]) rfl (by simp) (.cell gz 33 _ _ _ rfl (H.out.jF (g := gz) bT) Tryz.underlying33 rfl info33 (.cell gy 41 _ _ _ rfl (H.out.jF (g := gy) mem3) Tryz.underlying41 rfl xZ (.tmp .nil)))) rfl ?_
     subst hOV
     exact ⟨A1, c1, B1, d1, rfl, ⟨(Sep.drop2 (Sep.iJ (Sep.lC (Sep.sQ (Sep.CP H.out)))))⟩⟩
    ·
     have hOV := HO.out
     rw [doQ, if_neg hk1, if_neg hk2, if_neg hk3, if_neg hk4] at hOV
     have hb1 : (k == 1) = false := by simpa using hk1
     have hb2 : (k == 2) = false := by simpa using hk2
     have hb3 : (k == 3) = false := by simpa using hk3
     have hb4 : (k == 4) = false := by simpa using hk4
     clear hk1 hk2 hk3 hk4
     go_wp2_with fail
     obtain ⟨D, hD⟩ : ∃ D, D = jU Q (Q, 5) := ⟨_, rfl⟩
     have HD := aC.mk hD
     refine (sH (fdo := 91) (lb := []) (rs := [box ge [.int .u64 0, .string ⟨#[]⟩, .bool false] 41, box gy [.int .u64 0, .string ⟨#[]⟩, .bool false] 41, box gz [.slice none 0 0, .bool false, .int .i64 0, .int .i64 0, .int .i64 0, .int .u64 0, .int .u64 0, .bool false, .slice none 0 0, .int .i64 0] 33, box gt [.int .u8 k, .string sd, .int .u64 sq] 84, box gq [.slice A Q.L.l.length c, .bool Q.L.dn, .int .i64 Q.L.fu, .int .i64 Q.L.fa, .int .i64 Q.L.size, .int .u64 Q.L.fr, .int .u64 Q.L.nx, .bool Q.L.br, .slice B Q.es.length d, .int .i64 Q.most] 33]) (rs2 := [box ge [.int .u64 0, .string ⟨#[]⟩, .bool false] 41, box gy [.int .u64 0, .string ⟨#[]⟩, .bool false] 41, box gz [.slice none 0 0, .bool false, .int .i64 0, .int .i64 0, .int .i64 0, .int .u64 0, .int .u64 0, .bool false, .slice none 0 0, .int .i64 0] 33, box gt [.int .u8 k, .string sd, .int .u64 sq] 84, box gq [.slice A Q.L.l.length c, .bool Q.L.dn, .int .i64 Q.L.fu, .int .i64 Q.L.fa, .int .i64 Q.L.size, .int .u64 Q.L.fr, .int .u64 Q.L.nx, .bool Q.L.br, .slice B Q.es.length d, .int .i64 Q.most] 33]) A c B d Q (Q, 5) HRp.out HCp.out HRe.out HCe.out HF.out (fun args w => by simp [go_sem]) ⟨H.out⟩ (fun hok hbr => qU (qdP w Q) [box ge [.int .u64 0, .string ⟨#[]⟩, .bool false] 41, box gy [.int .u64 0, .string ⟨#[]⟩, .bool false] 41, box gz [.slice none 0 0, .bool false, .int .i64 0, .int .i64 0, .int .i64 0, .int .u64 0, .int .u64 0, .bool false, .slice none 0 0, .int .i64 0] 33, box gt [.int .u8 k, .string sd, .int .u64 sq] 84, box gq [.slice A Q.L.l.length c, .bool Q.L.dn, .int .i64 Q.L.fu, .int .i64 Q.L.fa, .int .i64 Q.L.size, .int .u64 Q.L.fr, .int .u64 Q.L.nx, .bool Q.L.br, .slice B Q.es.length d, .int .i64 Q.most] 33]) (fun _ _ => rfl) (fun _ => rfl)).mono ?_
     rw [← hD]
     rintro e qhH ⟨A1, c1, B1, d1, rfl, H2⟩
     clear hD
     simp only [qc, lgc, List.cons_append, List.nil_append]
     have n_ : aC (Sep w qhH [row k67 67 (.slice A1 (D.1.L.l).length c1) D.1.L.l, row k41 41 (.slice B1 (D.1.es).length d1) D.1.es, box ge [.int .u64 0, .string ⟨#[]⟩, .bool false] 41, box gy [.int .u64 0, .string ⟨#[]⟩, .bool false] 41, box gz [.slice none 0 0, .bool false, .int .i64 0, .int .i64 0, .int .i64 0, .int .u64 0, .int .u64 0, .bool false, .slice none 0 0, .int .i64 0] 33, box gt [.int .u8 k, .string sd, .int .u64 sq] 84, box gq [.slice A Q.L.l.length c, .bool Q.L.dn, .int .i64 Q.L.fu, .int .i64 Q.L.fa, .int .i64 Q.L.size, .int .u64 Q.L.fr, .int .u64 Q.L.nx, .bool Q.L.br, .slice B Q.es.length d, .int .i64 Q.most] 33]) := ⟨H2.out⟩
     clear H c_e c_y c_z c_t c_q
     have H := n_
     clear n_
     have c_e := H.out.cell (g := ge) mem2
     have c_y := H.out.cell (g := gy) mem3
     have c_z := H.out.cell (g := gz) bT
     have c_t := H.out.cell (g := gt) dM
     have c_q := H.out.cell (g := gq) jL
     clear H2
     rw [← HD.out] at hOV
     clear HD
     clear c_e c_y c_z c_t c_q
     have c_e := H.out.cell (g := ge) mem2
     have z_e := H.out.frozen (g := ge) mem2
     have c_y := H.out.cell (g := gy) mem3
     have z_y := H.out.frozen (g := gy) mem3
     have c_z := H.out.cell (g := gz) bT
     have z_z := H.out.frozen (g := gz) bT
     have c_t := H.out.cell (g := gt) dM
     have c_q := H.out.cell (g := gq) jL
     have z_q := H.out.frozen (g := gq) jL
     go_upto_region 13 with (first
 |((with_reducible refine aV (t := 33) (p := 2) rfl ?_);
   refine bH (rs1 := [row k67 67 (.slice A1 (D.1.L.l).length c1) D.1.L.l, row k41 41 (.slice B1 (D.1.es).length d1) D.1.es, box ge [.int .u64 0, .string ⟨#[]⟩, .bool false] 41, box gy [.int .u64 0, .string ⟨#[]⟩, .bool false] 41, box gz [.slice none 0 0, .bool false, .int .i64 0, .int .i64 0, .int .i64 0, .int .u64 0, .int .u64 0, .bool false, .slice none 0 0, .int .i64 0] 33, box gt [.int .u8 k, .string sd, .int .u64 sq] 84, box gq [.slice A1 D.1.L.l.length c1, .bool D.1.L.dn, .int .i64 D.1.L.fu, .int .i64 D.1.L.fa, .int .i64 D.1.L.size, .int .u64 D.1.L.fr, .int .u64 D.1.L.nx, .bool D.1.L.br, .slice B1 D.1.es.length d1, .int .i64 D.1.most] 33]) rfl (t := 33) (p := 2) rfl rfl ?hr (H1 := (Sep.kD (Sep.kD (Sep.kD (Sep.kD (Sep.kD (Sep.kD (Sep.kD (Sep.kD (Sep.kD (Sep.kD H.out 0 (.slice A1 D.1.L.l.length c1) rfl) 1 (.bool D.1.L.dn) rfl) 2 (.int .i64 D.1.L.fu) rfl) 3 (.int .i64 D.1.L.fa) rfl) 4 (.int .i64 D.1.L.size) rfl) 5 (.int .u64 D.1.L.fr) rfl) 6 (.int .u64 D.1.L.nx) rfl) 7 (.bool D.1.L.br) rfl) 8 (.slice B1 D.1.es.length d1) rfl) 9 (.int .i64 D.1.most) rfl)) ?_;
   (case hr => first | (go_simp; done) | (go_simp; rfl));
   intro qiE n_;
   clear H c_e z_e c_y z_y c_z z_z c_t c_q z_q;
   have H := n_;
   clear n_;
   have c_e := H.out.cell (g := ge) mem2;
   have z_e := H.out.frozen (g := ge) mem2;
   have c_y := H.out.cell (g := gy) mem3;
   have z_y := H.out.frozen (g := gy) mem3;
   have c_z := H.out.cell (g := gz) bT;
   have z_z := H.out.frozen (g := gz) bT;
   have c_t := H.out.cell (g := gt) dM;
   have c_q := H.out.cell (g := gq) jL;
   have z_q := H.out.frozen (g := gq) jL)
 |fail)
     have sJ : ¬ gz = gq := iF H.out (i := 4) (j := 6) rfl rfl (by decide)
     have uO : ¬ gq = gz := fun e => sJ e.symm
     have uP : ¬ gy = gq := iF H.out (i := 3) (j := 6) rfl rfl (by decide)
     have yT : ¬ gq = gy := fun e => uP e.symm
     have xK : ¬ ge = gz := iF H.out (i := 2) (j := 4) rfl rfl (by decide)
     have JZ : ¬ gz = ge := fun e => xK e.symm
     have xM : ¬ ge = gy := iF H.out (i := 2) (j := 3) rfl rfl (by decide)
     have J3 : ¬ gy = ge := fun e => xM e.symm
     have uQ : ¬ gy = gz := iF H.out (i := 3) (j := 4) rfl rfl (by decide)
     have yU : ¬ gz = gy := fun e => uQ e.symm
     go_upto_region 13 with fail
     go_region
     refine qI (rs := [row k67 67 (.slice A1 (D.1.L.l).length c1) D.1.L.l, row k41 41 (.slice B1 (D.1.es).length d1) D.1.es, box ge [.int .u64 0, .string ⟨#[]⟩, .bool false] 41, box gy [.int .u64 0, .string ⟨#[]⟩, .bool false] 41, box gz [.slice A1 D.1.L.l.length c1, .bool D.1.L.dn, .int .i64 D.1.L.fu, .int .i64 D.1.L.fa, .int .i64 D.1.L.size, .int .u64 D.1.L.fr, .int .u64 D.1.L.nx, .bool D.1.L.br, .slice B1 D.1.es.length d1, .int .i64 D.1.most] 33, box gt [.int .u8 k, .string sd, .int .u64 sq] 84, box gq [.slice A1 D.1.L.l.length c1, .bool D.1.L.dn, .int .i64 D.1.L.fu, .int .i64 D.1.L.fa, .int .i64 D.1.L.size, .int .u64 D.1.L.fr, .int .u64 D.1.L.nx, .bool D.1.L.br, .slice B1 D.1.es.length d1, .int .i64 D.1.most] 33]) (Sep.drew (Sep.dY (Sep.dY (Sep.dY (Sep.dS (Sep.dS (Sep.dS (Sep.dS (Sep.dS (Sep.dS (Sep.dS (Sep.dS (Sep.dS (Sep.dS H.out 0 (.slice A1 D.1.L.l.length c1) rfl) 1 (.bool D.1.L.dn) rfl) 2 (.int .i64 D.1.L.fu) rfl) 3 (.int .i64 D.1.L.fa) rfl) 4 (.int .i64 D.1.L.size) rfl) 5 (.int .u64 D.1.L.fr) rfl) 6 (.int .u64 D.1.L.nx) rfl) 7 (.bool D.1.L.br) rfl) 8 (.slice B1 D.1.es.length d1) rfl) 9 (.int .i64 D.1.most) rfl) 0 (.int .u64 0) rfl) 1 (.string ⟨#[]⟩) rfl) 2 (.bool false) rfl)) ?_
     intro qiF n_
     clear H c_e z_e c_y z_y c_z z_z c_t c_q z_q
     have H := n_
     clear n_
     have c_e := H.out.cell (g := ge) mem2
     have z_e := H.out.frozen (g := ge) mem2
     have c_y := H.out.cell (g := gy) mem3
     have z_y := H.out.frozen (g := gy) mem3
     have c_z := H.out.cell (g := gz) bT
     have z_z := H.out.frozen (g := gz) bT
     have c_t := H.out.cell (g := gt) dM
     have c_q := H.out.cell (g := gq) jL
     have z_q := H.out.frozen (g := gq) jL
     clear uO sJ yT uP xK JZ xM J3 yU uQ
     go_wp2_with fail
     refine bodyPost_ret (dH (rs := [.cell 4 33, .cell 5 41, .tmp 6]) rfl (by simp) (.cell gz 33 _ _ _ rfl (H.out.jF (g := gz) bT) Tryz.underlying33 rfl info33 (.cell gy 41 _ _ _ rfl (H.out.jF (g := gy) mem3) Tryz.underlying41 rfl xZ (.tmp .nil)))) rfl ?_
     subst hOV
     exact ⟨A1, c1, B1, d1, rfl, ⟨(Sep.drop2 (Sep.iJ (Sep.lC (Sep.sQ (Sep.CP H.out)))))⟩⟩
end Go.Proofs.U
namespace Go.Proofs.U
open Go.RowKit Go.Proofs.aA.aK Go.Proofs.aA.aW Go.Proofs.aA.aX
attribute [local go_sem] iD iG jB jJ gU gV iP iQ
theorem qeE (d : Nat) (w : World) (x0 y0 : ByteArray) (x1 y1 : ByteArray) (x2 y2 : Int) :
  (Op.equalIn (d + 2) 67 (.agg #[.string x0, .string x1, .int .i64 x2]) (.agg #[.string y0, .string y1, .int .i64 y2])).run Tryz.prog w = .ok (x0.toList == y0.toList && (x1.toList == y1.toList && (x2 == y2))) w := by
 refine SL Tryz.underlying67 (by kernel_rfl) ?_
 refine wH (by rfl) (by go_simp; rfl) (by go_simp; rfl) (by go_simp) ?_
 refine wH (by rfl) (by go_simp; rfl) (by go_simp; rfl) (by go_simp) ?_
 exact IL (by rfl) (by go_simp; rfl) (by go_simp; rfl) (by go_simp)
end Go.Proofs.U
namespace Go.Proofs.U
open Go.RowKit Go.Proofs.aA.aK Go.Proofs.aA.aW Go.Proofs.aA.aX
attribute [local go_sem] iD iG jB jJ gU gV iP iQ
attribute [local go_sem high] qeE
end Go.Proofs.U
namespace Go.Proofs.U
open Go.RowKit Go.Proofs.aA.aK Go.Proofs.aA.aW Go.Proofs.aA.aX
end Go.Proofs.U
namespace Go.Proofs.U
open Go.RowKit Go.Proofs.aA.aK Go.Proofs.aA.aW Go.Proofs.aA.aX Go.Proofs.Sp Go.Proofs.gB
theorem DF {α : Type} {p : α} : ∀ {a a' b b' : List α}, p ∉ a → p ∉ a' → a ++ p :: b = a' ++ p :: b' → a = a' ∧ b = b'
 | [], [], _, _, _, _, h => by simpa using h
 | [], y :: a', _, _, _, h2, h => by
  simp only [List.nil_append, List.cons_append, List.cons.injEq] at h
  exact absurd (by rw [← h.1]; exact List.mem_cons_self ..) h2
 | y :: a, [], _, _, h1, _, h => by
  simp only [List.nil_append, List.cons_append, List.cons.injEq] at h
  exact absurd (by rw [h.1]; exact List.mem_cons_self ..) h1
 | y :: a, z :: a', b, b', h1, h2, h => by
  simp only [List.cons_append, List.cons.injEq] at h
  obtain ⟨rfl, h⟩ := h
  obtain ⟨rfl, rfl⟩ := DF (fun g => h1 (List.mem_cons_of_mem _ g)) (fun g => h2 (List.mem_cons_of_mem _ g)) h
  exact ⟨rfl, rfl⟩
theorem kV (a b : List S67) : aN (a ++ b) = aN a ++ aN b := List.filterMap_append ..
theorem lN {l : List S67} {p : Pl} : p ∈ aN l ↔ p.1 ∈ l ∧ numOf p.1.f0 = some p.2 := by
 constructor
 ·intro h
  obtain ⟨f, hf, he⟩ := List.mem_filterMap.1 h
  cases hn : numOf f.f0 with
  | none => rw [hn] at he; cases he
  | some n =>
   rw [hn] at he
   injection he with he
   subst he
   exact ⟨hf, hn⟩
 ·rintro ⟨h1, h2⟩
  refine List.mem_filterMap.2 ⟨p.1, h1, ?_⟩
  rw [h2, Option.map_some]
theorem qcG (N : ByteArray → Option Nat) {x : S67} {n : Nat} (h : N x.f0 = some n) (l : List S67) : (x :: l).filterMap (fun f => (N f.f0).map fun n => (f, n)) = (x, n) :: l.filterMap (fun f => (N f.f0).map fun n => (f, n)) := by
 simp only [List.filterMap_cons, h, Option.map_some]
theorem qA {x : S67} {n : Nat} (h : numOf x.f0 = some n) (l : List S67) : aN (x :: l) = (x, n) :: aN l := qcG numOf h l
theorem qbo {l : List S67} {i : Nat} {x : S67} (h : l[i]? = some x) : l = l.take i ++ x :: l.drop (i + 1) := by
 obtain ⟨hi, e⟩ := List.getElem?_eq_some_iff.1 h
 conv => lhs; rw [← List.take_append_drop i l]
 rw [List.drop_eq_getElem_cons hi, e]
theorem jT {l : List S67} (h : bI l = true) {a b : List Pl} {p : Pl} (hp : aN l = a ++ p :: b) :
  l[bsOf l p.1.f0]? = some p.1 ∧ lD l p.1.f0 (bsOf l p.1.f0) = true ∧ numOf p.1.f0 = some p.2 ∧ a = aN (l.take (bsOf l p.1.f0)) ∧ b = aN (l.drop (bsOf l p.1.f0 + 1)) := by
 have hm : p ∈ aN l := by rw [hp]; simp
 obtain ⟨h1, h2⟩ := lN.1 hm
 have hb := I4 h p.1.f0 h1 rfl
 refine ⟨hb, (wO _ _ _).2 ⟨p.1, hb, rfl⟩, h2, ?_⟩
 have hn : ∀ (c : List Pl) (d : List S67), c = aN (l.take (bsOf l p.1.f0)) → p ∉ c := by
  rintro c d rfl hc
  obtain ⟨h3, _⟩ := lN.1 hc
  obtain ⟨k, hk⟩ := List.getElem?_of_mem h3
  have hkb : k < bsOf l p.1.f0 := by
   have := (List.getElem?_eq_some_iff.1 hk).1
   simp only [List.length_take] at this
   omega
  rw [List.getElem?_take_of_lt hkb] at hk
  exact CU (o8 h hkb hk hb) rfl
 have hs : aN l = aN (l.take (bsOf l p.1.f0)) ++ p :: aN (l.drop (bsOf l p.1.f0 + 1)) := by
  conv => lhs; rw [qbo hb, kV, qA h2]
 refine DF ?_ (hn _ [] rfl) (hp.symm.trans hs)
 intro ha
 obtain ⟨i, hi⟩ := List.getElem?_of_mem ha
 have e1 : (aN l)[i]? = some p := by
  rw [hp, List.getElem?_append_left (List.getElem?_eq_some_iff.1 hi).1, hi]
 have e2 : (aN l)[a.length]? = some p := by rw [hp]; simp
 have hlt : i < a.length := (List.getElem?_eq_some_iff.1 hi).1
 have hnd : (aN l).Pairwise (fun p q => BL p.1.f0.toList q.1.f0.toList) := by
  have hp0 : l.Pairwise (fun x y => BL x.f0.toList y.f0.toList) := by
   have h0 := EX h
   rw [names, List.pairwise_map] at h0
   exact h0
  refine List.Pairwise.filterMap _ ?_ hp0
  intro x y hxy p1 hp1 q1 hq1
  cases hx : numOf x.f0 with
  | none => rw [hx] at hp1; cases hp1
  | some n =>
   rw [hx] at hp1
   cases hp1
   cases hy : numOf y.f0 with
   | none => rw [hy] at hq1; cases hq1
   | some m =>
    rw [hy] at hq1
    cases hq1
    exact hxy
 obtain ⟨j1, e1'⟩ := List.getElem?_eq_some_iff.1 e1
 obtain ⟨j2, e2'⟩ := List.getElem?_eq_some_iff.1 e2
 have := List.pairwise_iff_getElem.1 hnd i a.length j1 j2 hlt
 rw [e1', e2'] at this
 exact CU this rfl
theorem qF {l : List S67} (h : bI l = true) {a b : List Pl} {p : Pl} (hp : aN l = a ++ p :: b) : aN (l.take (bsOf l p.1.f0) ++ l.drop (bsOf l p.1.f0 + 1)) = a ++ b := by
 obtain ⟨_, _, _, h1, h2⟩ := jT h hp
 rw [kV, ← h1, ← h2]
theorem vT {l : List S67} (h : bI l = true) {a b : List Pl} {p : Pl} (hp : aN l = a ++ p :: b) {y : S67} (hy : y.f0 = p.1.f0) : aN (l.set (bsOf l p.1.f0) y) = a ++ (y, p.2) :: b := by
 obtain ⟨h0, _, h3, h1, h2⟩ := jT h hp
 have hi := (List.getElem?_eq_some_iff.1 h0).1
 rw [List.set_eq_take_append_cons_drop, if_pos hi, kV, qA (by rw [hy]; exact h3), ← h1, ← h2]
theorem kE {l : List S67} {dn : Bool} {fu fa : Int} {s : ByteArray} {wr : Bool} {rf : Int → Bool → Int} {df : Int → List S67} (h : (dF l dn fu fa s wr rf df).2.2.2.2 = 0) :
  bI l = true ∧ dn = false ∧ rf (bsOf l s) (lD l s (bsOf l s)) = 0 ∧ (dF l dn fu fa s wr rf df).1 = df (bsOf l s) ∧ (dF l dn fu fa s wr rf df).2.1 = false := by
 unfold dF at h ⊢
 split at h
 ·rename_i hr
  split at h
  ·cases h
  ·rename_i hd
   split at h
   ·rename_i hrf
    split at h
    ·cases h
    ·rename_i hf
     split at h
     ·cases h
     ·rename_i hu
      refine ⟨hr, by simpa using hd, hrf, ?_⟩
      rw [if_pos hr, if_neg hd, if_pos hrf, if_neg hf, if_neg hu]
      exact ⟨rfl, by simpa using hd⟩
   ·rename_i hrf
    exact absurd h hrf
 ·cases h
theorem UW {L : Lg} {a b : List Pl} {p : Pl} (hp : aN L.l = a ++ p :: b) (hz : (gX L.l L.dn L.fu L.fa p.1.f0).2.2.2.2 = 0) :
  bI (gX L.l L.dn L.fu L.fa p.1.f0).1 = true ∧ aN (gX L.l L.dn L.fu L.fa p.1.f0).1 = a ++ b ∧ L.dn = false ∧ (gX L.l L.dn L.fu L.fa p.1.f0).2.1 = false := by
 obtain ⟨h1, h2, h3, h4, h5⟩ := kE hz
 have e : (gX L.l L.dn L.fu L.fa p.1.f0).1 = L.l.take (bsOf L.l p.1.f0) ++ L.l.drop (bsOf L.l p.1.f0 + 1) := by
  rw [gX, h4]
  simp
 rw [e]
 exact ⟨rO h1 _, qF h1 hp, h2, h5⟩
theorem qcH {L : Lg} {a b : List Pl} {p : Pl} {e : Nat} (hp : aN L.l = a ++ p :: b) (hz : (CV L.l L.dn L.fu L.fa p.1.f0 (e : Int)).2.2.2.2 = 0) :
  bI (CV L.l L.dn L.fu L.fa p.1.f0 (e : Int)).1 = true ∧ aN (CV L.l L.dn L.fu L.fa p.1.f0 (e : Int)).1 = a ++ (⟨p.1.f0, p.1.f1.extract 0 e, (e : Int)⟩, p.2) :: b ∧ L.dn = false ∧ (CV L.l L.dn L.fu L.fa p.1.f0 (e : Int)).2.1 = false := by
 obtain ⟨h1, h2, h3, h4, h5⟩ := kE hz
 obtain ⟨g1, g2, _⟩ := jT h1 hp
 have hg := (qbb h1 (e : Int) h3).1
 have e1 : (CV L.l L.dn L.fu L.fa p.1.f0 (e : Int)).1 = L.l.set (bsOf L.l p.1.f0) ⟨p.1.f0, p.1.f1.extract 0 e, (e : Int)⟩ := by
  rw [CV, h4]
  simp only [Int.toNat_natCast, gZ g1]
 simp only [Int.toNat_natCast, gZ g1] at hg
 rw [e1]
 exact ⟨hg, vT h1 hp rfl, h2, h5⟩
theorem J4 : ∀ (gs : List Pl) (L R : Lg) (front : List Pl), aN L.l = front ++ gs.reverse → bI L.l = true → L.dn = false → L.br = false → lK L gs = (R, 0) →
  aN R.l = front ∧ bI R.l = true ∧ R.dn = false ∧ R.br = false ∧ R.size = L.size ∧ R.fr = L.fr ∧ R.nx = L.nx
 | [], L, R, front, hp, hr, hd, hb, h => by
  obtain ⟨rfl, _⟩ := Prod.mk.inj h
  exact ⟨by simpa using hp, hr, hd, hb, rfl, rfl, rfl⟩
 | p :: gs, L, R, front, hp, hr, hd, hb, h => by
  rw [lK] at h
  by_cases hz : (gX L.l L.dn L.fu L.fa p.1.f0).2.2.2.2 = 0
  ·rw [if_pos hz] at h
   have hp' : aN L.l = (front ++ gs.reverse) ++ p :: [] := by rw [hp]; simp
   obtain ⟨h1, h2, h3, h4⟩ := UW hp' hz
   rw [List.append_nil] at h2
   obtain ⟨k1, k2, k3, k4, k5, k6, k7⟩ := J4 gs (chg L (gX L.l L.dn L.fu L.fa p.1.f0)) R front h2 h1 h4 (by show (if _ then _ else _) = _; rw [if_pos hz]; exact hb) h
   exact ⟨k1, k2, k3, k4, k5, k6, k7⟩
  ·rw [if_neg hz] at h
   exact absurd (Prod.mk.inj h).2 hz
structure WF (L : Lg) (ds : List Bytes) (n m : Nat) : Prop where
 right : bI L.l = true
 dn : L.dn = false
 br : L.br = false
 lo : 1 ≤ L.size
 hi : L.size ≤ 262144
 first : dP (aN L.l) = n
 ch : chain SU n (aN L.l) ds m
 top : m ≤ most
 fr : L.fr = (n : Int)
 nx : L.nx = (m : Int)
theorem vU (S : Sum) : ∀ (n : Nat) (a : List Pl) (ds : List Bytes) (m : Nat), n ≤ most → chain S n a ds m → m ≤ most
 | n, [], ds, m, hn, h => by obtain ⟨rfl, rfl⟩ := h; exact hn
 | n, p :: r, ds, m, hn, h => by
  obtain ⟨h1, d1, d2, rfl, h3, h4⟩ := h
  obtain ⟨t, g1, g2, g3, g4, g5⟩ := lI S _ (byt p.1.f1) n (Nat.le_refl _)
  rw [h3] at g5
  exact vU S _ r d2 m (g5 hn) h4
theorem UY {l : List S67} : dP (aN l) ≤ most := by
 cases h : aN l with
 | nil => exact (by decide : 1 ≤ most)
 | cons p r =>
  have : p ∈ aN l := by rw [h]; simp
  exact (lU.1 (lN.1 this).2).1
theorem J5 {l : List S67} {dn : Bool} {fu fa size : Int} {R : Lg} {rs : List S62} (h : iZ l dn fu fa size = (R, rs, 0)) : ∃ ds n m, WF R ds n m ∧ rs = bV ds n ∧ R.size = size := by
 unfold iZ at h
 split at h
 case isFalse => cases h
 rename_i hr
 split at h
 case isTrue => cases h
 rename_i hs
 split at h
 case isTrue => cases h
 rename_i hd
 have hd : dn = false := by simpa using hd
 subst hd
 obtain ⟨n, hn⟩ : ∃ n, n = dP (aN l) := ⟨_, rfl⟩
 obtain ⟨F, hF⟩ : ∃ F, F = findF l := ⟨_, rfl⟩
 rw [← hn, ← hF] at h
 obtain ⟨h1, h2, h3⟩ : (iC ⟨l, false, fu, fa, size, 0, 0, false⟩ F n).1 = R ∧ (if (iC ⟨l, false, fu, fa, size, 0, 0, false⟩ F n).2 = 0 then bV F.recs n else []) = rs ∧ (iC ⟨l, false, fu, fa, size, 0, 0, false⟩ F n).2 = 0 := by
  simpa only [Prod.mk.injEq] using h
 rw [if_pos h3] at h2
 have hg : F = goF SU (aN l) n := by rw [hF, findF, hn]
 have hnm : n ≤ most := by rw [hn]; exact UY
 obtain ⟨kept, ds, m, hc, hh⟩ := wU SU (aN l) n
 rw [← hg] at hh
 unfold iC at h1 h3
 split at h3
 case isFalse hz => exact absurd h3 hz
 rename_i hz
 rw [if_pos hz] at h1
 split at h3
 case isFalse hz2 => exact absurd h3 hz2
 rename_i hz2
 rw [if_pos hz2] at h1
 obtain ⟨T, hT⟩ : ∃ T, lK ⟨l, false, fu, fa, size, 0, 0, false⟩ F.gone.reverse = (T, 0) := ⟨_, Prod.ext rfl hz⟩
 rw [hT] at h1 hz2
 rcases hh with ⟨a1, a2, a3, a4, a5⟩ | ⟨p, e, dt, a1, a2, a3, a4, a5, a6, a7⟩
 ·rw [a1, oK] at h1
  obtain ⟨k1, k2, k3, k4, k5, k6, k7⟩ := J4 F.gone.reverse _ T kept (by rw [List.reverse_reverse]; exact a2) hr rfl rfl hT
  have k5' : T.size = size := k5
  subst h1
  have hf : dP kept = n := by
   cases kept with
   | nil =>
      obtain ⟨_, rfl⟩ := hc
      cases hps : aN l with
      | nil => rw [hn, hps]
      | cons p r =>
       rw [hps] at a2
       have := a5 p r a2.symm
       exact absurd (by rw [hn, hps]; rfl) this
   | cons p r => rw [hn, a2]; rfl
  refine ⟨ds, n, m, ⟨k2, k3, k4, by show 1 ≤ T.size; rw [k5']; omega, by show T.size ≤ 262144; rw [k5']; omega, by show dP (aN T.l) = n; rw [k1]; exact hf, by show chain SU n (aN T.l) ds m; rw [k1]; exact hc, vU SU n kept ds m hnm hc, rfl, by rw [a4]⟩, by rw [← h2, a3], k5⟩
 ·have hp2 : aN l = (kept ++ [p]) ++ F.gone := by rw [a2]; simp
  obtain ⟨k1, k2, k3, k4, k5, k6, k7⟩ := J4 F.gone.reverse _ T (kept ++ [p]) (by rw [List.reverse_reverse]; exact hp2) hr rfl rfl hT
  have k5' : T.size = size := k5
  rw [a1, oK] at h1 hz2
  simp only at h1 hz2
  have k1' : aN T.l = kept ++ p :: [] := k1
  obtain ⟨c1, c2, c3, c4⟩ := qcH (L := T) (e := e) k1' hz2
  have hmm : m ≤ most := vU SU n kept ds m hnm hc
  have hrc := qaU SU a4 hmm
  have hc2 : chain SU n (aN (CV T.l T.dn T.fu T.fa p.1.f0 (e : Int)).1) (ds ++ dt) (m + dt.length) := by
   rw [c2]
   refine rE SU n kept _ ds dt m _ hc ⟨a3, dt, [], by simp, ?_, rfl, rfl⟩
   exact hrc.2
  have hf : dP (aN (CV T.l T.dn T.fu T.fa p.1.f0 (e : Int)).1) = n := by
   rw [c2]
   cases kept with
   | nil =>
      obtain ⟨_, rfl⟩ := hc
      exact a3
   | cons q r => rw [hn, a2]; rfl
  subst h1
  refine ⟨ds ++ dt, n, m + dt.length, ⟨c1, c4, ?_, by show 1 ≤ T.size; rw [k5']; omega, by show T.size ≤ 262144; rw [k5']; omega, hf, hc2, vU SU n _ _ _ hnm hc2, rfl, by rw [a7]⟩, by rw [← h2, a6], k5⟩
  show (if _ then _ else _) = _
  rw [if_pos hz2]
  exact k4
theorem WF.find {L : Lg} {ds : List Bytes} {n m : Nat} (h : WF L ds n m) : findF L.l = ⟨ds, m, none, []⟩ := by
 have := LG SU n (aN L.l) [] ds m h.ch
 rw [List.append_nil] at this
 rw [findF, h.first, this]
 simp [goF]
theorem WF.opens {L : Lg} {ds : List Bytes} {n m : Nat} (h : WF L ds n m) : iZ L.l L.dn L.fu L.fa L.size = (L, bV ds n, 0) := by
 have hlo := h.lo
 have hhi := h.hi
 rw [iZ, if_pos h.right, if_neg (by omega), h.dn, if_neg (by simp), h.find, h.first]
 obtain ⟨l, dn, fu, fa, size, fr, nx, br⟩ := L
 have h1 := h.dn
 have h2 := h.br
 have h3 := h.fr
 have h4 := h.nx
 simp only at h1 h2 h3 h4
 subst h1 h2 h3 h4
 simp [iC, lK, oK]
theorem WF.okL {L : Lg} {ds : List Bytes} {n m : Nat} (h : WF L ds n m) : okL L := by
 have h1 := pU SU n _ ds m h.ch
 have h2 := h.top
 unfold most at h2
 exact ⟨h.right, h.lo, h.hi, by rw [h.fr, h.nx]; omega, by rw [h.nx]; omega⟩
theorem WF.records {L : Lg} {ds : List Bytes} {n m : Nat} (h : WF L ds n m) : RF L = (bV ds n, 0) := by
 rw [RF, if_pos h.okL, h.br, if_neg (by simp), h.dn, if_neg (by simp), h.find, h.first]
theorem J6 : ∀ (ds : List Bytes) (n i : Nat) (x : S62), (bV ds n)[i]? = some x → x.f0 = ((n + i : Nat) : Int)
 | [], n, i, x, h => by simp [bV] at h
 | d :: ds, n, 0, x, h => by
  simp only [bV, List.getElem?_cons_zero, Option.some.injEq] at h
  subst h
  rfl
 | d :: ds, n, i + 1, x, h => by
  simp only [bV, List.getElem?_cons_succ] at h
  have := J6 ds (n + 1) i x h
  rw [this]
  omega
theorem qdc : ∀ (a b : List UInt8), bl a b = Op.bytesLess a b
 | [], [] => rfl
 | _ :: _, [] => rfl
 | [], _ :: _ => rfl
 | x :: r, y :: s => by rw [bl, Op.bytesLess, qdc r s]
theorem BD (n : Nat) : (nameB n).toList = hexN 16 n := by rw [ByteArray.toList_eq]; exact pR _
theorem FH {n : Nat} (h : n ≤ most) : numOf (nameB n) = some n := lU.2 ⟨h, (pR _).symm⟩
theorem O1 {s : ByteArray} {n : Nat} (h : numOf s = some n) : s = nameB n := qE ((lU.1 h).2.symm.trans (pR _).symm)
theorem qbp {a b : Nat} (hb : b ≤ most) (h : a < b) : BL (nameB a).toList (nameB b).toList := by
 have h16 : b < 16 ^ 16 := Nat.lt_of_le_of_lt hb (by decide)
 have := GY 16 a b h16 h
 rw [qdc] at this
 rw [BD, BD]
 exact this
theorem qdT (a : List UInt8) : ¬ BL a a := fun h => CU h rfl
theorem J7 (S : Sum) : ∀ (n : Nat) (a : List Pl) (ds : List Bytes) (m : Nat), chain S n a ds m → n ≤ m ∧ ∀ p ∈ a, p.2 ≤ m
 | n, [], ds, m, h => by obtain ⟨rfl, rfl⟩ := h; exact ⟨Nat.le_refl _, by simp⟩
 | n, p :: r, ds, m, h => by
  obtain ⟨h1, d1, d2, rfl, h3, h4⟩ := h
  obtain ⟨g1, g2⟩ := J7 S _ r d2 m h4
  refine ⟨by omega, fun q hq => ?_⟩
  rcases List.mem_cons.1 hq with rfl | hq
  ·omega
  ·exact g2 q hq
theorem xO (S : Sum) : ∀ (n : Nat) (a b : List Pl) (ds : List Bytes) (m : Nat), chain S n (a ++ b) ds m → ∃ d1 d2 k, chain S n a d1 k ∧ chain S k b d2 m ∧ ds = d1 ++ d2
 | n, [], b, ds, m, h => ⟨[], ds, n, ⟨rfl, rfl⟩, h, rfl⟩
 | n, p :: a, b, ds, m, h => by
  obtain ⟨h1, d1, d2, rfl, h3, h4⟩ := h
  obtain ⟨e1, e2, k, k1, k2, rfl⟩ := xO S _ a b d2 m h4
  exact ⟨d1 ++ e1, e2, k, ⟨h1, d1, e1, rfl, h3, k1⟩, k2, by simp⟩
theorem tC {s : ByteArray} {k : Nat} {d1 : List Bytes} (h : readB SU (byt s) k = (d1, s.size)) : byt s = fG SU k d1 ∧ ∀ d ∈ d1, d.length ≤ KP := by
 obtain ⟨r, h1, h2, h3, _⟩ := lI SU _ (byt s) k (Nat.le_refl _)
 rw [h] at h1 h2 h3
 simp only at h1 h2 h3
 have h4 := congrArg List.length h1
 rw [dK, List.length_append, ← h2] at h4
 have : r = [] := List.length_eq_zero_iff.1 (by omega)
 subst this
 exact ⟨by simpa using h1, h3⟩
theorem ZV {s t : ByteArray} {k m : Nat} {d1 : List Bytes} {d : Bytes} (h : readB SU (byt s) k = (d1, s.size)) (hm : m = k + d1.length) (ht : byt t = frame SU m d) (hd : d.length ≤ KP) (hlt : m < most) : readB SU (byt (s ++ t)) k = (d1 ++ [d], (s ++ t).size) := by
 obtain ⟨h1, h2⟩ := tC h
 have e : byt (s ++ t) = fG SU k (d1 ++ [d]) := by
  rw [AQ, wS, h1, ht, hm]
  simp [fG]
 have hr := uJ SU (ds := d1 ++ [d]) (n := k) (fun x hx => by
  rcases List.mem_append.1 hx with hx | hx
  ·exact h2 x hx
  ·rw [List.mem_singleton.1 hx]; exact hd) (by rw [List.length_append, List.length_singleton]; omega)
 rw [e, hr, ← e, dK]
theorem BF {L : Lg} {a b : List Pl} {p : Pl} {s : ByteArray} (hp : aN L.l = a ++ p :: b) (hz : (iU L.l L.dn L.fu L.fa p.1.f0 s).2.2.2.2 = 0) :
  bI (iU L.l L.dn L.fu L.fa p.1.f0 s).1 = true ∧ aN (iU L.l L.dn L.fu L.fa p.1.f0 s).1 = a ++ (⟨p.1.f0, p.1.f1 ++ s, p.1.f2⟩, p.2) :: b ∧ (iU L.l L.dn L.fu L.fa p.1.f0 s).2.1 = false ∧ (iU L.l L.dn L.fu L.fa p.1.f0 s).1.length = L.l.length := by
 obtain ⟨h1, h2, h3, h4, h5⟩ := kE hz
 obtain ⟨g1, g2, _⟩ := jT h1 hp
 have hg := (xA h1 s h3).1
 have e1 : (iU L.l L.dn L.fu L.fa p.1.f0 s).1 = L.l.set (bsOf L.l p.1.f0) ⟨p.1.f0, p.1.f1 ++ s, p.1.f2⟩ := by
  rw [iU, h4]
  simp only [Int.toNat_natCast, gZ g1]
 simp only [Int.toNat_natCast, gZ g1] at hg
 rw [e1]
 exact ⟨hg, vT h1 hp rfl, h5, List.length_set⟩
theorem qbq {L : Lg} {a b : List Pl} {p : Pl} (hp : aN L.l = a ++ p :: b) (hz : (qY L.l L.dn L.fu L.fa p.1.f0).2.2.2.2 = 0) :
  bI (qY L.l L.dn L.fu L.fa p.1.f0).1 = true ∧ aN (qY L.l L.dn L.fu L.fa p.1.f0).1 = a ++ (⟨p.1.f0, p.1.f1, (p.1.f1.size : Int)⟩, p.2) :: b ∧ (qY L.l L.dn L.fu L.fa p.1.f0).2.1 = false ∧ (qY L.l L.dn L.fu L.fa p.1.f0).1.length = L.l.length := by
 obtain ⟨h1, h2, h3, h4, h5⟩ := kE hz
 obtain ⟨g1, g2, _⟩ := jT h1 hp
 have hg := (EF h1 g2).1
 have e1 : (qY L.l L.dn L.fu L.fa p.1.f0).1 = L.l.set (bsOf L.l p.1.f0) ⟨p.1.f0, p.1.f1, (p.1.f1.size : Int)⟩ := by
  rw [qY, h4]
  simp only [Int.toNat_natCast, gZ g1]
 simp only [Int.toNat_natCast, gZ g1] at hg
 rw [e1]
 exact ⟨hg, vT h1 hp rfl, h5, List.length_set⟩
theorem UZ {l : List S67} (h : bI l = true) {m : Nat} (hm : m ≤ most) (hle : ∀ p ∈ aN l, p.2 ≤ m) (hi : lD l (nameB m) (bsOf l (nameB m)) = false) :
  aN (l.take (bsOf l (nameB m)) ++ [(⟨nameB m, ⟨#[]⟩, 0⟩ : S67)] ++ l.drop (bsOf l (nameB m))) = aN l ++ [((⟨nameB m, ⟨#[]⟩, 0⟩ : S67), m)] := by
 have hd : aN (l.drop (bsOf l (nameB m))) = [] := by
  rw [List.eq_nil_iff_forall_not_mem]
  intro p hp
  obtain ⟨h1, h2⟩ := lN.1 hp
  have hin : p ∈ aN l := lN.2 ⟨List.mem_of_mem_drop h1, h2⟩
  have hk := hle p hin
  obtain ⟨k, hk2⟩ := List.getElem?_of_mem h1
  rw [List.getElem?_drop] at hk2
  have hno := qaS h (nameB m) (by omega : bsOf l (nameB m) ≤ bsOf l (nameB m) + k) hk2
  have hnm := O1 h2
  rcases Nat.lt_or_ge p.2 m with g | g
  ·exact hno (by rw [hnm]; exact qbp hm g)
  ·have e : p.2 = m := by omega
   have hx : p.1.f0.toList = (nameB m).toList := by rw [hnm, e]
   have hb := I4 h (nameB m) (List.mem_of_mem_drop h1) hx
   rw [(wO _ _ _).2 ⟨p.1, hb, hx⟩] at hi
   cases hi
 have ht : aN (l.take (bsOf l (nameB m))) = aN l := by
  conv => rhs; rw [← List.take_append_drop (bsOf l (nameB m)) l, kV, hd, List.append_nil]
 have e0 : aN ([] : List S67) = [] := List.filterMap_nil
 have hcs : aN [(⟨nameB m, ⟨#[]⟩, 0⟩ : S67)] = [((⟨nameB m, ⟨#[]⟩, 0⟩ : S67), m)] := (qA (x := ⟨nameB m, ⟨#[]⟩, 0⟩) (n := m) (FH hm) []).trans (by rw [e0])
 rw [kV, hd, List.append_nil, kV, ht, hcs]
theorem O4 (k : Nat) : readB SU (byt (⟨#[]⟩ : ByteArray)) k = ([], 0) := rfl
theorem DI {L R : Lg} {ds : List Bytes} {n m k : Nat} (h : WF L ds n m) (hs : iK L k = (R, 0)) : WF R ds n m ∧ R.size = L.size ∧ R.l.length ≤ L.l.length + 1 ∧ ∃ a p, aN R.l = a ++ [p] ∧ (p.1.f1.size + k ≤ 262144 ∨ p.1.f1.size = 0) := by
 unfold iK at hs
 split at hs
 ·rename_i hf
  obtain ⟨hs1, hz⟩ := Prod.mk.inj hs
  obtain ⟨h1, h2, h3, h4, h5⟩ := kE hz
  have hnx : L.nx.toNat = m := by rw [h.nx]; exact Int.toNat_natCast m
  rw [hnx] at hs1 h3 h4 h5 hz
  have hat : lD L.l (nameB m) (bsOf L.l (nameB m)) = false := by
   cases hh : lD L.l (nameB m) (bsOf L.l (nameB m)) with
   | false => rfl
   | true =>
    rw [hh] at h3
    unfold rfC at h3
    split at h3
    ·cases h3
    ·simp at h3
  have hle := (J7 SU n _ ds m h.ch).2
  have e1 : (jW L.l L.dn L.fu L.fa (nameB m)).1 = L.l.take (bsOf L.l (nameB m)) ++ [(⟨nameB m, ⟨#[]⟩, 0⟩ : S67)] ++ L.l.drop (bsOf L.l (nameB m)) := by
   rw [jW, h4]
   simp
  have hpl : aN R.l = aN L.l ++ [((⟨nameB m, ⟨#[]⟩, 0⟩ : S67), m)] := by
   rw [← hs1]
   show aN (jW L.l L.dn L.fu L.fa (nameB m)).1 = _
   rw [e1]
   exact UZ h.right h.top hle hat
  have hch : chain SU n (aN R.l) ds m := by
   rw [hpl, ← List.append_nil ds]
   exact rE SU n _ _ ds [] m m h.ch ⟨rfl, [], [], rfl, O4 m, rfl, rfl⟩
  have qdU : dP (aN R.l) = n := by
   rw [hpl]
   have hfn := h.first
   cases hps : aN L.l with
   | nil =>
    have hc := h.ch
    rw [hps] at hc
    obtain ⟨_, rfl⟩ := hc
    rfl
   | cons p r =>
    rw [hps] at hfn
    exact hfn
  refine ⟨⟨?_, ?_, ?_, ?_, ?_, qdU, hch, h.top, ?_, ?_⟩, ?_, ?_, _, _, hpl, .inr rfl⟩
  ·rw [← hs1]
   show bI (jW L.l L.dn L.fu L.fa (nameB m)).1 = true
   rw [e1]
   exact (wZ h.right h3).1
  ·rw [← hs1]; exact h5
  ·rw [← hs1]
   show (if _ then _ else _) = _
   rw [if_pos hz]
   exact h.br
  ·rw [← hs1]; exact h.lo
  ·rw [← hs1]; exact h.hi
  ·rw [← hs1]; exact h.fr
  ·rw [← hs1]; exact h.nx
  ·rw [← hs1]; rfl
  ·rw [← hs1]
   show (jW L.l L.dn L.fu L.fa (nameB m)).1.length ≤ _
   rw [e1]
   simp only [List.length_append, List.length_take, List.length_drop, List.length_singleton]
   have := VU L.l (nameB m)
   omega
 ·rename_i hf
  obtain ⟨rfl, _⟩ := Prod.mk.inj hs
  refine ⟨h, rfl, Nat.le_succ _, ?_⟩
  unfold isFull at hf
  cases hl : vM L.l with
  | none => rw [hl] at hf; exact absurd trivial hf
  | some p =>
   rw [hl] at hf
   simp only at hf
   have hl' : (aN L.l).getLast? = some p := hl
   obtain ⟨a, ha⟩ := List.getLast?_eq_some_iff.1 hl'
   exact ⟨a, p, ha, .inl (by omega)⟩
theorem yI {l : List S67} {a : List Pl} {p : Pl} (h : aN l = a ++ [p]) : oN l = p.1.f0 := by
 rw [oN, vM, h, List.getLast?_append]
 rfl
theorem qbr {L R : Lg} {ds : List Bytes} {n m : Nat} {a : List Pl} {p : Pl} {s d : ByteArray} (h : WF L ds n m) (hp : aN L.l = a ++ [p]) (hs : byt s = frame SU m (byt d)) (hd : d.size ≤ 65536) (hm : m < most) (hR : pI L s = (R, 0)) :
  WF R (ds ++ [byt d]) n (m + 1) ∧ R.size = L.size ∧ R.l.length = L.l.length ∧ ∃ f, aN R.l = a ++ [(f, p.2)] ∧ f.f0 = p.1.f0 ∧ f.f1 = p.1.f1 ++ s ∧ f.f2 = (f.f1.size : Int) := by
 unfold pI at hR
 rw [yI hp] at hR
 split at hR
 case isFalse hz => exact absurd (Prod.mk.inj hR).2 (by exact fun e => hz (by rw [hR]))
 rename_i hz
 split at hR
 case isFalse hz2 => exact absurd (Prod.mk.inj hR).2 (by exact fun e => hz2 (by rw [hR]))
 rename_i hz2
 obtain ⟨hR, _⟩ := Prod.mk.inj hR
 have hp' : aN L.l = a ++ p :: [] := hp
 obtain ⟨k1, k2, k3, k4⟩ := BF (L := L) hp' hz
 have hp2 : aN (fZ L p.1.f0 s).1.l = a ++ ((⟨p.1.f0, p.1.f1 ++ s, p.1.f2⟩ : S67), p.2) :: [] := k2
 obtain ⟨j1, j2, j3, j4⟩ := qbq (L := (fZ L p.1.f0 s).1) hp2 hz2
 obtain ⟨d1, d2, k, c1, c2, c3⟩ := xO SU n a [p] ds m (by rw [← hp]; exact h.ch)
 obtain ⟨c4, e1, e2, rfl, c5, c6, c7⟩ := c2
 subst c6
 have hrm := ZV (t := s) (d := byt d) c5 c7 hs (by rw [dK]; exact hd) hm
 have hpl : aN R.l = a ++ [((⟨p.1.f0, p.1.f1 ++ s, ((p.1.f1 ++ s).size : Int)⟩ : S67), p.2)] := by
  rw [← hR]
  exact j2
 have hch : chain SU n (aN R.l) (ds ++ [byt d]) (m + 1) := by
  rw [hpl, c3, List.append_nil, List.append_assoc]
  refine rE SU n a _ d1 (e1 ++ [byt d]) k (m + 1) c1 ⟨c4, e1 ++ [byt d], [], by simp, hrm, rfl, ?_⟩
  rw [List.length_append, List.length_singleton]
  omega
 have qdU : dP (aN R.l) = n := by
  rw [hpl]
  have hfn := h.first
  rw [hp] at hfn
  cases a with
  | nil => exact hfn
  | cons q r => exact hfn
 refine ⟨⟨?_, ?_, ?_, ?_, ?_, qdU, hch, by omega, ?_, ?_⟩, ?_, ?_, _, hpl, rfl, rfl, rfl⟩
 ·rw [← hR]; exact j1
 ·rw [← hR]; exact j3
 ·rw [← hR]
  exact (if_pos hz2).trans ((if_pos hz).trans h.br)
 ·rw [← hR]; exact h.lo
 ·rw [← hR]; exact h.hi
 ·rw [← hR]; exact h.fr
 ·rw [← hR]
  show L.nx + 1 = _
  rw [h.nx]
  rfl
 ·rw [← hR]; rfl
 ·rw [← hR]
  exact j4.trans k4
theorem LX {L R : Lg} {ds : List Bytes} {n m : Nat} {d : ByteArray} (h : WF L ds n m) (hR : dG L d = (R, 0)) : WF R (ds ++ [byt d]) n (m + 1) ∧ R.size = L.size ∧ R.l.length ≤ L.l.length + 1 ∧ d.size ≤ 65536 ∧ m < most := by
 rw [dG, if_pos h.okL, jG, h.br, if_neg (by simp)] at hR
 split at hR
 ·cases hR
 rename_i hd
 split at hR
 ·cases hR
 rename_i hm
 have hm2 : m < most := by
  rw [h.nx] at hm
  unfold most
  omega
 split at hR
 case isFalse hz => exact absurd (by rw [hR]) hz
 rename_i hz
 obtain ⟨L1, hL1⟩ : ∃ L1, iK L (fV L.nx d).size = (L1, 0) := ⟨_, Prod.ext rfl hz⟩
 rw [hL1] at hR
 obtain ⟨w1, w2, w3, a, p, w4, w5⟩ := DI h hL1
 have hs : byt (fV L.nx d) = frame SU m (byt d) := by rw [h.nx]; exact sU m d
 obtain ⟨v1, v2, v3, _⟩ := qbr w1 w4 hs (by omega) hm2 hR
 exact ⟨v1, by rw [v2, w2], by omega, by omega, hm2⟩
theorem U0 (n : Nat) : (nameB n).size = 16 := by rw [← dK, nameB, pR, oQ]
theorem qcI {l : List S67} (h : bI l = true) {n m : Nat} {ds : List Bytes} (hc : chain SU n (aN l) ds m) {p : Pl} (hp : p ∈ aN l) (hm : p.2 = m) : ∃ a, aN l = a ++ [p] ∧ p.1.f1.size = 0 := by
 obtain ⟨a, b, hab⟩ := List.append_of_mem hp
 rw [hab] at hc
 obtain ⟨d1, d2, k, c1, c2, c3⟩ := xO SU n a (p :: b) ds m hc
 obtain ⟨c4, e1, e2, rfl, c5, c6⟩ := c2
 have hle := (J7 SU _ b e2 m c6).1
 have he1 : e1 = [] := List.length_eq_zero_iff.1 (by omega)
 subst he1
 have hsz : p.1.f1.size = 0 := by
  have := (tC c5).1
  have h2 := congrArg List.length this
  rw [dK] at h2
  simpa [fG] using h2
 cases b with
 | nil => exact ⟨a, hab, hsz⟩
 | cons q r =>
  exfalso
  obtain ⟨c7, _⟩ := c6
  have hq : q.2 = p.2 := by
   rw [c7, c4]
   rfl
  obtain ⟨g1, g2, g3, g4, g5⟩ := jT h hab
  have hqm : q ∈ aN (l.drop (bsOf l p.1.f0 + 1)) := by rw [← g5]; simp
  obtain ⟨q1, q2⟩ := lN.1 hqm
  obtain ⟨j, hj⟩ := List.getElem?_of_mem q1
  rw [List.getElem?_drop] at hj
  have hlt := o8 h (by omega : bsOf l p.1.f0 < bsOf l p.1.f0 + 1 + j) g1 hj
  rw [O1 g3, O1 q2, hq] at hlt
  exact qdT _ hlt
theorem U1 {L : Lg} {ds : List Bytes} {n m k : Nat} (h : WF L ds n m) (hu : L.fu = -1) (ha : L.fa = -1) (hk : k ≤ 65552) (hl : L.l.length < 64) : (iK L k).2 = 0 ∧ (iK L k).1.fu = -1 ∧ (iK L k).1.fa = -1 := by
 unfold iK
 split
 ·rename_i hf
  have hnx : L.nx.toNat = m := by rw [h.nx]; exact Int.toNat_natCast m
  rw [hnx]
  have hat : lD L.l (nameB m) (bsOf L.l (nameB m)) = false := by
   cases hh : lD L.l (nameB m) (bsOf L.l (nameB m)) with
   | false => rfl
   | true =>
    exfalso
    obtain ⟨x, hx, hxe⟩ := (wO _ _ _).1 hh
    have hxn : x.f0 = nameB m := qE (by
     rw [ByteArray.toList_eq, ByteArray.toList_eq] at hxe
     exact hxe)
    have hmem : ((x, m) : Pl) ∈ aN L.l := lN.2 ⟨List.mem_of_getElem? hx, by show numOf x.f0 = some m; rw [hxn]; exact FH h.top⟩
    obtain ⟨a, e1, e2⟩ := qcI h.right h.ch hmem rfl
    have hlp : vM L.l = some (x, m) := by
     rw [vM, e1, List.getLast?_append]
     rfl
    unfold isFull at hf
    rw [hlp] at hf
    simp only at hf e2
    have := h.lo
    omega
  have hrf : rfC (nameB m) L.l.length (bsOf L.l (nameB m)) (lD L.l (nameB m) (bsOf L.l (nameB m))) = 0 := by
   unfold rfC
   rw [hat, if_neg, if_neg (by simp), if_neg (by omega)]
   rw [U0, BD]
   intro hh
   rcases hh with hh | hh
   ·have := congrArg List.length hh
    rw [oQ] at this
    cases this
   ·omega
  rw [hu, ha, h.dn, jW, qC h.right, if_pos (by simpa using hrf)]
  exact ⟨rfl, rfl, rfl⟩
 ·exact ⟨rfl, hu, ha⟩
theorem U2 {L : Lg} {ds : List Bytes} {n m : Nat} {a : List Pl} {p : Pl} {s : ByteArray} (h : WF L ds n m) (hu : L.fu = -1) (ha : L.fa = -1) (hp : aN L.l = a ++ [p]) (hs : p.1.f1.size + s.size ≤ 262144) : (pI L s).2 = 0 ∧ (pI L s).1.fu = -1 ∧ (pI L s).1.fa = -1 := by
 have hp' : aN L.l = a ++ p :: [] := hp
 obtain ⟨g1, g2, g3, _⟩ := jT h.right hp'
 have e1 : fZ L p.1.f0 s = (chg L (L.l.set (bsOf L.l p.1.f0) ⟨p.1.f0, p.1.f1 ++ s, p.1.f2⟩, false, -1, -1, 0), 0) := by
  have hA : iU L.l L.dn L.fu L.fa p.1.f0 s = (L.l.set (bsOf L.l p.1.f0) ⟨p.1.f0, p.1.f1 ++ s, p.1.f2⟩, false, -1, -1, 0) := by
   rw [hu, ha, h.dn, iU, qC h.right, if_pos (by simp [rfW, g2, gZ g1]; omega)]
   simp only [Int.toNat_natCast, gZ g1]
  rw [fZ, hA]
 have hz : (iU L.l L.dn L.fu L.fa p.1.f0 s).2.2.2.2 = 0 := by
  have := congrArg Prod.snd e1
  exact this
 obtain ⟨k1, k2, k3, k4⟩ := BF (L := L) hp' hz
 have hp2 : aN (fZ L p.1.f0 s).1.l = a ++ ((⟨p.1.f0, p.1.f1 ++ s, p.1.f2⟩ : S67), p.2) :: [] := k2
 have hr2 : bI (fZ L p.1.f0 s).1.l = true := k1
 obtain ⟨j1, j2, j3, _⟩ := jT hr2 hp2
 have hd2 : (fZ L p.1.f0 s).1.dn = false ∧ (fZ L p.1.f0 s).1.fu = -1 ∧ (fZ L p.1.f0 s).1.fa = -1 := by rw [e1]; exact ⟨rfl, rfl, rfl⟩
 have e2 : (stepS (fZ L p.1.f0 s).1 p.1.f0).2 = 0 ∧ (stepS (fZ L p.1.f0 s).1 p.1.f0).1.fu = -1 ∧ (stepS (fZ L p.1.f0 s).1 p.1.f0).1.fa = -1 := by
  simp only at j1 j2
  rw [stepS, hd2.1, hd2.2.1, hd2.2.2, qY, qC hr2, if_pos (by simp [j2])]
  exact ⟨rfl, rfl, rfl⟩
 unfold pI
 rw [yI hp, if_pos (by rw [e1]), if_pos e2.1]
 exact ⟨rfl, e2.2.1, e2.2.2⟩
theorem xP {L : Lg} {ds : List Bytes} {n m : Nat} {d : ByteArray} (h : WF L ds n m) (hu : L.fu = -1) (ha : L.fa = -1) (hd : d.size ≤ 65536) (hm : m < most) (hl : L.l.length < 64) :
  ∃ R, dG L d = (R, 0) ∧ R.fu = -1 ∧ R.fa = -1 := by
 have hfs : (fV L.nx d).size = 16 + d.size := by rw [h.nx]; exact FD m d
 obtain ⟨c1, c2, c3⟩ := U1 (k := (fV L.nx d).size) h hu ha (by omega) hl
 obtain ⟨L1, hL1⟩ : ∃ L1, iK L (fV L.nx d).size = (L1, 0) := ⟨_, Prod.ext rfl c1⟩
 rw [hL1] at c2 c3
 obtain ⟨w1, w2, w3, a, p, w4, w5⟩ := DI h hL1
 obtain ⟨p1, p2, p3⟩ := U2 (s := fV L.nx d) w1 c2 c3 w4 (by omega)
 refine ⟨(pI L1 (fV L.nx d)).1, ?_, p2, p3⟩
 rw [dG, if_pos h.okL, jG, h.br, if_neg (by simp), if_neg (by omega), if_neg (by rw [h.nx]; unfold most at hm; omega), hL1, if_pos rfl]
 exact Prod.ext rfl p1
def L0s (size : Int) : Lg := ⟨[], false, -1, -1, size, 1, 1, false⟩
theorem LY : bI ([] : List S67) = true := by decide
theorem J8 : aN ([] : List S67) = [] := List.filterMap_nil
theorem qbs {size : Int} (h0 : 1 ≤ size) (h1 : size ≤ 262144) : WF (L0s size) [] 1 1 :=
 ⟨LY, rfl, rfl, h0, h1, by show dP (aN []) = 1; rw [J8]; rfl, by show chain SU 1 (aN []) [] 1; rw [J8]; exact ⟨rfl, rfl⟩, by decide, rfl, rfl⟩
theorem qbt {size : Int} (h0 : 1 ≤ size) (h1 : size ≤ 262144) : iZ [] false (-1) (-1) size = (L0s size, [], 0) := by
 have h := (qbs h0 h1).opens
 exact h
end Go.Proofs.U
namespace Go.Proofs.U
open Go.RowKit Go.Proofs.aA.aK Go.Proofs.aA.aW Go.Proofs.aA.aX
attribute [local go_sem] iD iG jB jJ gU gV iP iQ
end Go.Proofs.U
namespace Go.Proofs.U
open Go.RowKit Go.Proofs.aA.aK Go.Proofs.aA.aW Go.Proofs.aA.aX Go.Proofs.Sp Go.Proofs.gB
theorem qhI {w : World} {ad : Addr} {n i : Nat} {l : List S62} {x : S62} (h : Kd.C k62 w (some ad) n l) (hx : l[i]? = some x) :
  w.cell? (ad.add (i * 2)) = some (.int .u64 x.f0) ∧ w.cell? ⟨(ad.add (i * 2)).block, (ad.add (i * 2)).off + 1, none⟩ = some (.string x.f1) := by
 have hi := (List.getElem?_eq_some_iff.1 hx).1
 obtain ⟨ad2, c, e, _, hK, hc0⟩ := Kd.yL h (⟨0, ⟨#[]⟩⟩ : S62) (i : Int) (by omega) (by have := h.1; omega)
 injection e with e
 subst e
 have hg : l.getD i (⟨0, ⟨#[]⟩⟩ : S62) = x := by simp [List.getD, hx]
 simp only [Int.toNat_natCast] at hK hc0
 rw [hg] at hK
 have hc : ∀ j u, c[j]? = some u → w.cell? (ad.add (i * 2 + j)) = some u := hc0
 obtain rfl := qav hK
 exact ⟨hc 0 _ rfl, by rw [← kT _ _ 1 (by omega)]; exact hc 1 _ rfl⟩
theorem qeF {w : World} {A : Option Addr} {n : Nat} {l : List S62} (h : Kd.C k62 w A n l) (hn : 0 < n) : ∃ ad, A = some ad := by
 obtain ⟨ad2, c, e, _⟩ := Kd.yL h (⟨0, ⟨#[]⟩⟩ : S62) 0 (by omega) (by omega)
 exact ⟨ad2, e⟩
end Go.Proofs.U
