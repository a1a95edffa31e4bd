import Derived.Test.YtanonhipicoigaaGreatDoorZTaq
import Derived.Test.YtanonhipicoigaaGreatDoorZTai
import Derived.Test.YtanonhipicoigaaGreatDoorZTan
import Derived.Test.YtanonhipicoigaaGreatDoorZTao
import Derived.Test.YtanonhipicoigaaGreatDoorZTal
import Derived.Maps.Own
import Derived.Maps.OwnOps
import Derived.Maps.OwnSet
import Derived.Maps.Views
import Derived.Maps.Keyed
import Derived.Carry
import Derived.Test.YtanonhipicoigaaGreatDoorZTag
set_option linter.unusedVariables false
set_option linter.unusedSimpArgs false
set_option maxRecDepth 100000
namespace Go.Proofs.U
open Go.RowKit Go.Proofs.aA.aK Go.Proofs.aA.aW Go.Proofs.aA.aZ Go.Proofs.Sp Go.Proofs.dZ
open Classical in
noncomputable def lH (Q : Qu) (D : Qu × Int) : Qu × Int := if okQ Q then (if Q.L.br = true then (Q, 6) else D) else (Qz, 6)
noncomputable def pR (Q : Qu) (data : ByteArray) : Qu × Int := lH Q (BF Q Q.L.nx data)
noncomputable def KW (Q : Qu) (data : ByteArray) : Int := if (pR Q data).2 = 0 then Q.L.nx else 0
noncomputable def iP (Q : Qu) : Qu × Int := lH Q (qE Q)
open Classical in
noncomputable def jH (Q : Qu) : S41 := if okQ Q ∧ Q.L.br = false then uX Q else z41
noncomputable def rG (Q : Qu) (q : Int) : Qu × Int := lH Q (KU Q q)
noncomputable def pU (Q : Qu) (q : Int) : Qu × Int := lH Q (zK Q q)
noncomputable def doQ (Q : Qu) (k : Int) (sd : ByteArray) (sq : Int) : Qu × S41 × Int :=
 if k = 1 then ((pR Q sd).1, ⟨KW Q sd, ⟨#[]⟩, false⟩, (pR Q sd).2)
 else if k = 2 then ((iP Q).1, jH Q, (iP Q).2)
 else if k = 3 then ((rG Q sq).1, z41, (rG Q sq).2)
 else if k = 4 then ((pU Q sq).1, z41, (pU Q sq).2)
 else ((lH Q (Q, 5)).1, z41, (lH Q (Q, 5)).2)
theorem BG {b w : World} {rs rs' rs2 : List Res} {fdo : Nat} {lb : List Value} (A : Option Addr) (c : Nat) (B : Option Addr) (d : Nat) (Q : Qu) (D : Qu × Int) (hr : Kd.C k67 b A Q.L.l.length Q.L.l) (hc : Q.L.l.length ≤ c) (hre : Kd.C k41 b B Q.es.length Q.es) (hce : Q.es.length ≤ d) (h0 : 0 ≤ Q.L.fr)
  (he : ∀ args w, (callFunc fdo args).run Tryz.prog w = .ok (.enter fdo args) w) (H0 : aC (Sep b w rs)) (hdo : okQ Q → Q.L.br = false → IB b fdo lb Q rs rs' D.1 D.2) (h1 : okQ Q → Q.L.br = false → rs2 = rs') (h2 : ¬ (okQ Q ∧ Q.L.br = false) → rs2 = rs) :
  Calls Tryz.prog 52 #[.agg (qc A c B d Q).toArray, .func (.func fdo) #[] lb.toArray] w fun e w' => ∃ A' c' B' d', e = .returned (.tuple #[.agg (qc A' c' B' d' (lH Q D).1).toArray, .int .i64 (lH Q D).2]) ∧ aC (Sep b w' (oO A' c' (lH Q D).1.L.l :: uG B' d' (lH Q D).1.es :: rs2)) := by
 by_cases hok : okQ Q
 ·cases hbr : Q.L.br
  ·have e : lH Q D = D := by rw [lH, if_pos hok, hbr, if_neg (by simp)]
   rw [e, h1 hok hbr]
   exact wR A c B d Q D.1 D.2 hr hc hre hce h0 he H0 (.inr (.inr ⟨hok, hbr, hdo hok hbr⟩))
  ·have e : lH Q D = (Q, 6) := by rw [lH, if_pos hok, hbr, if_pos rfl]
   rw [e, h2 (fun h => by rw [hbr] at h; cases h.2)]
   exact wR A c B d Q Q 6 hr hc hre hce h0 he H0 (.inr (.inl ⟨hok, hbr, rfl, rfl, rfl⟩))
 ·have e : lH Q D = (Qz, 6) := by rw [lH, if_neg hok]
  rw [e, h2 (fun h => hok h.1)]
  exact wR A c B d Q Qz 6 hr hc hre hce h0 he H0 (.inl ⟨hok, rfl, rfl, rfl⟩)
set_option maxHeartbeats 8000000 in
theorem put_any (A : Option Addr) (c : Nat) (B : Option Addr) (d : Nat) (Q : Qu) (data : ByteArray) (w : World) (hr : Kd.C k67 w A Q.L.l.length Q.L.l) (hc : Q.L.l.length ≤ c) (hre : Kd.C k41 w B Q.es.length Q.es) (hce : Q.es.length ≤ d) (hG : Gl w) (h0 : 0 ≤ Q.L.fr) (hnx : 0 ≤ Q.L.nx) (hnx2 : Q.L.nx < 18446744073709551616) :
  Calls Tryz.prog 20 #[.agg (qc A c B d Q).toArray, .string data] w fun e w' => ∃ A' c' B' d', e = .returned (.tuple #[.agg (qc A' c' B' d' (pR Q data).1).toArray, .int .u64 (KW Q data), .int .i64 (pR Q data).2]) ∧ aC (Sep w w' [oO A' c' (pR Q data).1.L.l, uG B' d' (pR Q data).1.es]) := by
 have HRp := aC.mk hr
 have HCp := aC.mk hc
 have HRe := aC.mk hre
 have HCe := aC.mk hce
 have HG := aC.mk hG
 have HF := aC.mk h0
 have HN0 := aC.mk hnx
 have HN1 := aC.mk hnx2
 clear hr hc hre hce hG h0 hnx hnx2
 simp only [qc, lgc, List.cons_append, List.nil_append]
 obtain ⟨Z, hZ⟩ : ∃ Z, Z = (pR Q data) := ⟨_, rfl⟩
 rw [← hZ]
 have HZ := aC.mk hZ
 clear hZ
 obtain ⟨S, hS⟩ : ∃ S, S = KW Q data := ⟨_, rfl⟩
 rw [← hS]
 have HS := aC.mk hS
 clear hS
 have H := aC.mk (Sep.start w)
 go_enter Tryz.func20, Tryz.ntmps20
 go_wp2_with (first
 |((with_reducible refine aV (N := 2) rfl ?_);
   refine bP rfl H (cs := [.slice A Q.L.l.length c, .bool Q.L.dn, .int .i64 Q.L.fu, .int .i64 Q.L.fa, .int .i64 Q.L.size, .int .u64 Q.L.fr, .int .u64 Q.L.nx, .bool Q.L.br, .slice B Q.es.length d, .int .i64 Q.most]) (t := 33) ?hr ?_;
   (case hr => first | (go_simp; done) | (go_simp; rfl));
   intro gq wd1 n_;
   simp only [Act.put, zA, zZ, zS];
   clear H;
   have H := n_;
   clear n_;
   have c_q := H.out.cell (g := gq) aQ;
   have z_q := H.out.frozen (g := gq) aQ)
 |((with_reducible refine aV (N := 3) rfl ?_);
   refine bP rfl H (cs := [.string data]) (t := 9) ?hr ?_;
   (case hr => first | (go_simp; done) | (go_simp; rfl));
   intro gt wd2 n_;
   simp only [Act.put, zA, zZ, zS];
   clear H c_q z_q;
   have H := n_;
   clear n_;
   have c_t := H.out.cell (g := gt) aQ;
   have c_q := H.out.cell (g := gq) mem1;
   have z_q := H.out.frozen (g := gq) mem1)
 |((with_reducible refine aV (N := 4) rfl ?_);
   refine bP rfl H (cs := [.slice none 0 0, .bool false, .int .i64 0, .int .i64 0, .int .i64 0, .int .u64 0, .int .u64 0, .bool false, .slice none 0 0, .int .i64 0]) (t := 33) ?hr ?_;
   (case hr => first | (go_simp; done) | (go_simp; rfl));
   intro gz wd3 n_;
   simp only [Act.put, zA, zZ, zS];
   clear H c_t c_q z_q;
   have H := n_;
   clear n_;
   have c_z := H.out.cell (g := gz) aQ;
   have z_z := H.out.frozen (g := gz) aQ;
   have c_t := H.out.cell (g := gt) mem1;
   have c_q := H.out.cell (g := gq) mem2;
   have z_q := H.out.frozen (g := gq) mem2)
 |((with_reducible refine aV (N := 7) rfl ?_);
   refine bP rfl H (cs := [.int .u64 0]) (t := 28) ?hr ?_;
   (case hr => first | (go_simp; done) | (go_simp; rfl));
   intro gs wd4 n_;
   simp only [Act.put, zA, zZ, zS];
   clear H c_z z_z c_t c_q z_q;
   have H := n_;
   clear n_;
   have c_s := H.out.cell (g := gs) aQ;
   have z_s := H.out.frozen (g := gs) aQ;
   have c_z := H.out.cell (g := gz) mem1;
   have z_z := H.out.frozen (g := gz) mem1;
   have c_t := H.out.cell (g := gt) mem2;
   have c_q := H.out.cell (g := gq) mem3;
   have z_q := H.out.frozen (g := gq) mem3)
 |((with_reducible refine aX (t := 28) (p := 7) rfl ?_);
   refine bM (rs1 := [box gs [.int .u64 Q.L.nx] 28, box gz [.slice none 0 0, .bool false, .int .i64 0, .int .i64 0, .int .i64 0, .int .u64 0, .int .u64 0, .bool false, .slice none 0 0, .int .i64 0] 33, box gt [.string data] 9, box gq [.slice A Q.L.l.length c, .bool Q.L.dn, .int .i64 Q.L.fu, .int .i64 Q.L.fa, .int .i64 Q.L.size, .int .u64 Q.L.fr, .int .u64 Q.L.nx, .bool Q.L.br, .slice B Q.es.length d, .int .i64 Q.most] 33]) rfl (t := 28) (p := 7) rfl rfl ?hr (H1 := (Sep.set0 H.out 0 (.int .u64 Q.L.nx) rfl)) ?_;
   (case hr => first | (go_simp; done) | (go_simp; rfl));
   intro wd5 n_;
   clear H c_s z_s c_z z_z c_t c_q z_q;
   have H := n_;
   clear n_;
   have c_s := H.out.cell (g := gs) aQ;
   have z_s := H.out.frozen (g := gs) aQ;
   have c_z := H.out.cell (g := gz) mem1;
   have z_z := H.out.frozen (g := gz) mem1;
   have c_t := H.out.cell (g := gt) mem2;
   have c_q := H.out.cell (g := gq) mem3;
   have z_q := H.out.frozen (g := gq) mem3)
 |fail)
 obtain ⟨D, hD⟩ : ∃ D, D = lH Q (BF Q Q.L.nx data) := ⟨_, rfl⟩
 have HD := aC.mk hD
 refine (BG (fdo := 53) (lb := [.pointer (some ⟨gt, 0, none⟩), .pointer (some ⟨gs, 0, none⟩)]) (rs := [box gt [.string data] 9, box gs [.int .u64 Q.L.nx] 28, box gq [.slice A Q.L.l.length c, .bool Q.L.dn, .int .i64 Q.L.fu, .int .i64 Q.L.fa, .int .i64 Q.L.size, .int .u64 Q.L.fr, .int .u64 Q.L.nx, .bool Q.L.br, .slice B Q.es.length d, .int .i64 Q.most] 33, box gz [.slice none 0 0, .bool false, .int .i64 0, .int .i64 0, .int .i64 0, .int .u64 0, .int .u64 0, .bool false, .slice none 0 0, .int .i64 0] 33]) (rs2 := [box gt [.string data] 9, box gs [.int .u64 Q.L.nx] 28, box gq [.slice A Q.L.l.length c, .bool Q.L.dn, .int .i64 Q.L.fu, .int .i64 Q.L.fa, .int .i64 Q.L.size, .int .u64 Q.L.fr, .int .u64 Q.L.nx, .bool Q.L.br, .slice B Q.es.length d, .int .i64 Q.most] 33, box gz [.slice none 0 0, .bool false, .int .i64 0, .int .i64 0, .int .i64 0, .int .u64 0, .int .u64 0, .bool false, .slice none 0 0, .int .i64 0] 33]) A c B d Q (BF Q Q.L.nx data) HRp.out HCp.out HRe.out HCe.out HF.out (fun args w => by simp [go_sem]) ⟨(Sep.jQ (Sep.gY (Sep.jQ (Sep.jK H.out))))⟩ (fun hok hbr => yN (qeC w Q gt gs Q.L.nx data HG.out HN0.out HN1.out hok.2.2.2.1) [box gq [.slice A Q.L.l.length c, .bool Q.L.dn, .int .i64 Q.L.fu, .int .i64 Q.L.fa, .int .i64 Q.L.size, .int .u64 Q.L.fr, .int .u64 Q.L.nx, .bool Q.L.br, .slice B Q.es.length d, .int .i64 Q.most] 33, box gz [.slice none 0 0, .bool false, .int .i64 0, .int .i64 0, .int .i64 0, .int .u64 0, .int .u64 0, .bool false, .slice none 0 0, .int .i64 0] 33]) (fun _ _ => rfl) (fun _ => rfl)).mono ?_
 rw [← hD]
 rintro e wd6 ⟨A1, c1, B1, d1, rfl, H2⟩
 clear hD
 simp only [qc, lgc, List.cons_append, List.nil_append]
 have n_ : aC (Sep w wd6 [row k67 67 (.slice A1 (D.1.L.l).length c1) D.1.L.l, row k41 41 (.slice B1 (D.1.es).length d1) D.1.es, box gt [.string data] 9, box gs [.int .u64 Q.L.nx] 28, box gq [.slice A Q.L.l.length c, .bool Q.L.dn, .int .i64 Q.L.fu, .int .i64 Q.L.fa, .int .i64 Q.L.size, .int .u64 Q.L.fr, .int .u64 Q.L.nx, .bool Q.L.br, .slice B Q.es.length d, .int .i64 Q.most] 33, box gz [.slice none 0 0, .bool false, .int .i64 0, .int .i64 0, .int .i64 0, .int .u64 0, .int .u64 0, .bool false, .slice none 0 0, .int .i64 0] 33]) := ⟨H2.out⟩
 clear H c_s z_s c_z z_z c_t c_q z_q
 have H := n_
 clear n_
 have c_t := H.out.cell (g := gt) mem2
 have c_s := H.out.cell (g := gs) mem3
 have z_s := H.out.frozen (g := gs) mem3
 have c_q := H.out.cell (g := gq) dM
 have z_q := H.out.frozen (g := gq) dM
 have c_z := H.out.cell (g := gz) eF
 have z_z := H.out.frozen (g := gz) eF
 clear H2
 have hSD : S = if D.2 = 0 then Q.L.nx else 0 := by rw [HS.out, KW, show pR Q data = D from HD.out.symm]
 have hZD : D = Z := HD.out.trans HZ.out.symm
 subst hZD
 have HSD := aC.mk hSD
 clear hSD HD
 by_cases hz : D.2 = 0
 ·
  go_upto_region 5 with (first
 |((with_reducible refine aX (t := 33) (p := 2) rfl ?_);
   refine bM (rs1 := [row k67 67 (.slice A1 (D.1.L.l).length c1) D.1.L.l, row k41 41 (.slice B1 (D.1.es).length d1) D.1.es, box gt [.string data] 9, box gs [.int .u64 Q.L.nx] 28, box gq [.slice A1 D.1.L.l.length c1, .bool D.1.L.dn, .int .i64 D.1.L.fu, .int .i64 D.1.L.fa, .int .i64 D.1.L.size, .int .u64 D.1.L.fr, .int .u64 D.1.L.nx, .bool D.1.L.br, .slice B1 D.1.es.length d1, .int .i64 D.1.most] 33, box gz [.slice none 0 0, .bool false, .int .i64 0, .int .i64 0, .int .i64 0, .int .u64 0, .int .u64 0, .bool false, .slice none 0 0, .int .i64 0] 33]) rfl (t := 33) (p := 2) rfl rfl ?hr (H1 := (Sep.kM (Sep.kM (Sep.kM (Sep.kM (Sep.kM (Sep.kM (Sep.kM (Sep.kM (Sep.kM (Sep.kM H.out 0 (.slice A1 D.1.L.l.length c1) rfl) 1 (.bool D.1.L.dn) rfl) 2 (.int .i64 D.1.L.fu) rfl) 3 (.int .i64 D.1.L.fa) rfl) 4 (.int .i64 D.1.L.size) rfl) 5 (.int .u64 D.1.L.fr) rfl) 6 (.int .u64 D.1.L.nx) rfl) 7 (.bool D.1.L.br) rfl) 8 (.slice B1 D.1.es.length d1) rfl) 9 (.int .i64 D.1.most) rfl)) ?_;
   (case hr => first | (go_simp; done) | (go_simp; rfl));
   intro wd7 n_;
   clear H c_t c_s z_s c_q z_q c_z z_z;
   have H := n_;
   clear n_;
   have c_t := H.out.cell (g := gt) mem2;
   have c_s := H.out.cell (g := gs) mem3;
   have c_q := H.out.cell (g := gq) dM;
   have z_q := H.out.frozen (g := gq) dM;
   have c_z := H.out.cell (g := gz) eF;
   have z_z := H.out.frozen (g := gz) eF)
 |fail)
  have TJ : ¬ gq = gz := yE H.out (i := 4) (j := 5) rfl rfl (by decide)
  have qcd : ¬ gz = gq := fun e => TJ e.symm
  have qdQ : ¬ gs = gz := yE H.out (i := 3) (j := 5) rfl rfl (by decide)
  have qfq : ¬ gz = gs := fun e => qdQ e.symm
  go_upto_region 5 with fail
  go_region
  refine uI (rs := [row k67 67 (.slice A1 (D.1.L.l).length c1) D.1.L.l, row k41 41 (.slice B1 (D.1.es).length d1) D.1.es, box gt [.string data] 9, box gs [.int .u64 Q.L.nx] 28, box gq [.slice A1 D.1.L.l.length c1, .bool D.1.L.dn, .int .i64 D.1.L.fu, .int .i64 D.1.L.fa, .int .i64 D.1.L.size, .int .u64 D.1.L.fr, .int .u64 D.1.L.nx, .bool D.1.L.br, .slice B1 D.1.es.length d1, .int .i64 D.1.most] 33, box gz [.slice A1 D.1.L.l.length c1, .bool D.1.L.dn, .int .i64 D.1.L.fu, .int .i64 D.1.L.fa, .int .i64 D.1.L.size, .int .u64 D.1.L.fr, .int .u64 D.1.L.nx, .bool D.1.L.br, .slice B1 D.1.es.length d1, .int .i64 D.1.most] 33]) (Sep.drew (Sep.iJ (Sep.iJ (Sep.iJ (Sep.iJ (Sep.iJ (Sep.iJ (Sep.iJ (Sep.iJ (Sep.iJ (Sep.iJ H.out 0 (.slice A1 D.1.L.l.length c1) rfl) 1 (.bool D.1.L.dn) rfl) 2 (.int .i64 D.1.L.fu) rfl) 3 (.int .i64 D.1.L.fa) rfl) 4 (.int .i64 D.1.L.size) rfl) 5 (.int .u64 D.1.L.fr) rfl) 6 (.int .u64 D.1.L.nx) rfl) 7 (.bool D.1.L.br) rfl) 8 (.slice B1 D.1.es.length d1) rfl) 9 (.int .i64 D.1.most) rfl)) ?_
  intro wd8 n_
  clear H c_t c_s c_q z_q c_z z_z
  have H := n_
  clear n_
  have c_t := H.out.cell (g := gt) mem2
  have c_s := H.out.cell (g := gs) mem3
  have c_q := H.out.cell (g := gq) dM
  have z_q := H.out.frozen (g := gq) dM
  have c_z := H.out.cell (g := gz) eF
  have z_z := H.out.frozen (g := gz) eF
  clear TJ qcd qdQ qfq
  go_wp2_with fail
  have hSD := HSD.out
  rw [if_pos hz] at hSD
  refine bodyPost_ret (dS (rs := [.cell 4 33, .tmp 5, .tmp 6]) rfl (by simp) (.cell gz 33 _ _ _ rfl (H.out.lD (g := gz) eF) Tryz.underlying33 rfl info33 (.tmp (.tmp .nil)))) rfl ?_
  subst hSD
  exact ⟨A1, c1, B1, d1, by rw [hz]; rfl, ⟨(Sep.drop2 (Sep.jU (Sep.oK (Sep.xQ H.out))))⟩⟩
 ·
  go_wp2_with (first
 |((with_reducible refine aX (t := 33) (p := 2) rfl ?_);
   refine bM (rs1 := [row k67 67 (.slice A1 (D.1.L.l).length c1) D.1.L.l, row k41 41 (.slice B1 (D.1.es).length d1) D.1.es, box gt [.string data] 9, box gs [.int .u64 Q.L.nx] 28, box gq [.slice A1 D.1.L.l.length c1, .bool D.1.L.dn, .int .i64 D.1.L.fu, .int .i64 D.1.L.fa, .int .i64 D.1.L.size, .int .u64 D.1.L.fr, .int .u64 D.1.L.nx, .bool D.1.L.br, .slice B1 D.1.es.length d1, .int .i64 D.1.most] 33, box gz [.slice none 0 0, .bool false, .int .i64 0, .int .i64 0, .int .i64 0, .int .u64 0, .int .u64 0, .bool false, .slice none 0 0, .int .i64 0] 33]) rfl (t := 33) (p := 2) rfl rfl ?hr (H1 := (Sep.kM (Sep.kM (Sep.kM (Sep.kM (Sep.kM (Sep.kM (Sep.kM (Sep.kM (Sep.kM (Sep.kM H.out 0 (.slice A1 D.1.L.l.length c1) rfl) 1 (.bool D.1.L.dn) rfl) 2 (.int .i64 D.1.L.fu) rfl) 3 (.int .i64 D.1.L.fa) rfl) 4 (.int .i64 D.1.L.size) rfl) 5 (.int .u64 D.1.L.fr) rfl) 6 (.int .u64 D.1.L.nx) rfl) 7 (.bool D.1.L.br) rfl) 8 (.slice B1 D.1.es.length d1) rfl) 9 (.int .i64 D.1.most) rfl)) ?_;
   (case hr => first | (go_simp; done) | (go_simp; rfl));
   intro wd9 n_;
   clear H c_t c_s z_s c_q z_q c_z z_z;
   have H := n_;
   clear n_;
   have c_t := H.out.cell (g := gt) mem2;
   have c_s := H.out.cell (g := gs) mem3;
   have c_q := H.out.cell (g := gq) dM;
   have z_q := H.out.frozen (g := gq) dM;
   have c_z := H.out.cell (g := gz) eF;
   have z_z := H.out.frozen (g := gz) eF)
 |((with_reducible refine aX (t := 33) (p := 4) rfl ?_);
   refine bM (rs1 := [row k67 67 (.slice A1 (D.1.L.l).length c1) D.1.L.l, row k41 41 (.slice B1 (D.1.es).length d1) D.1.es, box gt [.string data] 9, box gs [.int .u64 Q.L.nx] 28, box gq [.slice A1 D.1.L.l.length c1, .bool D.1.L.dn, .int .i64 D.1.L.fu, .int .i64 D.1.L.fa, .int .i64 D.1.L.size, .int .u64 D.1.L.fr, .int .u64 D.1.L.nx, .bool D.1.L.br, .slice B1 D.1.es.length d1, .int .i64 D.1.most] 33, box gz [.slice A1 D.1.L.l.length c1, .bool D.1.L.dn, .int .i64 D.1.L.fu, .int .i64 D.1.L.fa, .int .i64 D.1.L.size, .int .u64 D.1.L.fr, .int .u64 D.1.L.nx, .bool D.1.L.br, .slice B1 D.1.es.length d1, .int .i64 D.1.most] 33]) rfl (t := 33) (p := 4) rfl rfl ?hr (H1 := (Sep.iJ (Sep.iJ (Sep.iJ (Sep.iJ (Sep.iJ (Sep.iJ (Sep.iJ (Sep.iJ (Sep.iJ (Sep.iJ H.out 0 (.slice A1 D.1.L.l.length c1) rfl) 1 (.bool D.1.L.dn) rfl) 2 (.int .i64 D.1.L.fu) rfl) 3 (.int .i64 D.1.L.fa) rfl) 4 (.int .i64 D.1.L.size) rfl) 5 (.int .u64 D.1.L.fr) rfl) 6 (.int .u64 D.1.L.nx) rfl) 7 (.bool D.1.L.br) rfl) 8 (.slice B1 D.1.es.length d1) rfl) 9 (.int .i64 D.1.most) rfl)) ?_;
   (case hr => first | (go_simp; done) | (go_simp; rfl));
   intro FN n_;
   clear H c_t c_s c_q z_q c_z z_z;
   have H := n_;
   clear n_;
   have c_t := H.out.cell (g := gt) mem2;
   have c_s := H.out.cell (g := gs) mem3;
   have c_q := H.out.cell (g := gq) dM;
   have z_q := H.out.frozen (g := gq) dM;
   have c_z := H.out.cell (g := gz) eF;
   have z_z := H.out.frozen (g := gz) eF)
 |fail)
  have hSD := HSD.out
  rw [if_neg hz] at hSD
  subst hSD
  refine bodyPost_ret (dS (rs := [.cell 4 33, .tmp 5, .tmp 6]) rfl (by simp) (.cell gz 33 _ _ _ rfl (H.out.lD (g := gz) eF) Tryz.underlying33 rfl info33 (.tmp (.tmp .nil)))) rfl ?_
  exact ⟨A1, c1, B1, d1, rfl, ⟨(Sep.drop2 (Sep.jU (Sep.oK (Sep.xQ H.out))))⟩⟩
set_option maxHeartbeats 8000000 in
theorem qaE (A : Option Addr) (c : Nat) (B : Option Addr) (d : Nat) (Q : Qu)  (w : World) (hr : Kd.C k67 w A Q.L.l.length Q.L.l) (hc : Q.L.l.length ≤ c) (hre : Kd.C k41 w B Q.es.length Q.es) (hce : Q.es.length ≤ d) (hG : Gl w) (h0 : 0 ≤ Q.L.fr) (hnx : 0 ≤ Q.L.nx) (hnx2 : Q.L.nx < 18446744073709551616) :
  Calls Tryz.prog 21 #[.agg (qc A c B d Q).toArray] w fun e w' => ∃ A' c' B' d', e = .returned (.tuple #[.agg (qc A' c' B' d' (iP Q).1).toArray, .agg #[.int .u64 (jH Q).f0, .string (jH Q).f1, .bool (jH Q).f2], .int .i64 (iP Q).2]) ∧ aC (Sep w w' [oO A' c' (iP Q).1.L.l, uG B' d' (iP Q).1.es]) := by
 have HRp := aC.mk hr
 have HCp := aC.mk hc
 have HRe := aC.mk hre
 have HCe := aC.mk hce
 have HG := aC.mk hG
 have HF := aC.mk h0
 have HN0 := aC.mk hnx
 have HN1 := aC.mk hnx2
 clear hr hc hre hce hG h0 hnx hnx2
 simp only [qc, lgc, List.cons_append, List.nil_append]
 obtain ⟨Z, hZ⟩ : ∃ Z, Z = (iP Q) := ⟨_, rfl⟩
 rw [← hZ]
 have HZ := aC.mk hZ
 clear hZ
 obtain ⟨X, hX⟩ : ∃ X, X = jH Q := ⟨_, rfl⟩
 rw [← hX]
 have HX := aC.mk hX
 clear hX
 have H := aC.mk (Sep.start w)
 go_enter Tryz.func21, Tryz.ntmps21
 go_wp2_with (first
 |((with_reducible refine aV (N := 1) rfl ?_);
   refine bP rfl H (cs := [.slice A Q.L.l.length c, .bool Q.L.dn, .int .i64 Q.L.fu, .int .i64 Q.L.fa, .int .i64 Q.L.size, .int .u64 Q.L.fr, .int .u64 Q.L.nx, .bool Q.L.br, .slice B Q.es.length d, .int .i64 Q.most]) (t := 33) ?hr ?_;
   (case hr => first | (go_simp; done) | (go_simp; rfl));
   intro gq OU n_;
   simp only [Act.put, zA, zZ, zS];
   clear H;
   have H := n_;
   clear n_;
   have c_q := H.out.cell (g := gq) aQ;
   have z_q := H.out.frozen (g := gq) aQ)
 |((with_reducible refine aV (N := 2) rfl ?_);
   refine bP rfl H (cs := [.slice none 0 0, .bool false, .int .i64 0, .int .i64 0, .int .i64 0, .int .u64 0, .int .u64 0, .bool false, .slice none 0 0, .int .i64 0]) (t := 33) ?hr ?_;
   (case hr => first | (go_simp; done) | (go_simp; rfl));
   intro gz FP n_;
   simp only [Act.put, zA, zZ, zS];
   clear H c_q z_q;
   have H := n_;
   clear n_;
   have c_z := H.out.cell (g := gz) aQ;
   have z_z := H.out.frozen (g := gz) aQ;
   have c_q := H.out.cell (g := gq) mem1;
   have z_q := H.out.frozen (g := gq) mem1)
 |((with_reducible refine aV (N := 3) rfl ?_);
   refine bP rfl H (cs := [.int .u64 0, .string ⟨#[]⟩, .bool false]) (t := 41) ?hr ?_;
   (case hr => first | (go_simp; done) | (go_simp; rfl));
   intro gy SX n_;
   simp only [Act.put, zA, zZ, zS];
   clear H c_z z_z c_q z_q;
   have H := n_;
   clear n_;
   have c_y := H.out.cell (g := gy) aQ;
   have z_y := H.out.frozen (g := gy) aQ;
   have c_z := H.out.cell (g := gz) mem1;
   have z_z := H.out.frozen (g := gz) mem1;
   have c_q := H.out.cell (g := gq) mem2;
   have z_q := H.out.frozen (g := gq) mem2)
 |((with_reducible refine aV (N := 5) rfl ?_);
   refine bP rfl H (cs := [.int .u64 0, .string ⟨#[]⟩, .bool false]) (t := 41) ?hr ?_;
   (case hr => first | (go_simp; done) | (go_simp; rfl));
   intro gx qav n_;
   simp only [Act.put, zA, zZ, zS];
   clear H c_y z_y c_z z_z c_q z_q;
   have H := n_;
   clear n_;
   have c_x := H.out.cell (g := gx) aQ;
   have c_y := H.out.cell (g := gy) mem1;
   have z_y := H.out.frozen (g := gy) mem1;
   have c_z := H.out.cell (g := gz) mem2;
   have z_z := H.out.frozen (g := gz) mem2;
   have c_q := H.out.cell (g := gq) mem3;
   have z_q := H.out.frozen (g := gq) mem3)
 |fail)
 obtain ⟨D, hD⟩ : ∃ D, D = lH Q (qE Q) := ⟨_, rfl⟩
 have HD := aC.mk hD
 refine (BG (fdo := 56) (lb := [.pointer (some ⟨gx, 0, none⟩)]) (rs := [box gx [.int .u64 0, .string ⟨#[]⟩, .bool false] 41, box gq [.slice A Q.L.l.length c, .bool Q.L.dn, .int .i64 Q.L.fu, .int .i64 Q.L.fa, .int .i64 Q.L.size, .int .u64 Q.L.fr, .int .u64 Q.L.nx, .bool Q.L.br, .slice B Q.es.length d, .int .i64 Q.most] 33, box gz [.slice none 0 0, .bool false, .int .i64 0, .int .i64 0, .int .i64 0, .int .u64 0, .int .u64 0, .bool false, .slice none 0 0, .int .i64 0] 33, box gy [.int .u64 0, .string ⟨#[]⟩, .bool false] 41]) (rs2 := [box gx [.int .u64 (jH Q).f0, .string (jH Q).f1, .bool (jH Q).f2] 41, box gq [.slice A Q.L.l.length c, .bool Q.L.dn, .int .i64 Q.L.fu, .int .i64 Q.L.fa, .int .i64 Q.L.size, .int .u64 Q.L.fr, .int .u64 Q.L.nx, .bool Q.L.br, .slice B Q.es.length d, .int .i64 Q.most] 33, box gz [.slice none 0 0, .bool false, .int .i64 0, .int .i64 0, .int .i64 0, .int .u64 0, .int .u64 0, .bool false, .slice none 0 0, .int .i64 0] 33, box gy [.int .u64 0, .string ⟨#[]⟩, .bool false] 41]) A c B d Q (qE Q) HRp.out HCp.out HRe.out HCe.out HF.out (fun args w => by simp [go_sem]) ⟨(Sep.jQ (Sep.jQ (Sep.gY (Sep.jK H.out))))⟩ (fun hok hbr => yN (by have h := qcb w Q gx hok.2.2.2.1; exact h) [box gq [.slice A Q.L.l.length c, .bool Q.L.dn, .int .i64 Q.L.fu, .int .i64 Q.L.fa, .int .i64 Q.L.size, .int .u64 Q.L.fr, .int .u64 Q.L.nx, .bool Q.L.br, .slice B Q.es.length d, .int .i64 Q.most] 33, box gz [.slice none 0 0, .bool false, .int .i64 0, .int .i64 0, .int .i64 0, .int .u64 0, .int .u64 0, .bool false, .slice none 0 0, .int .i64 0] 33, box gy [.int .u64 0, .string ⟨#[]⟩, .bool false] 41]) (fun h1 h2 => by rw [jH, if_pos ⟨h1, h2⟩]; rfl) (fun h => by rw [jH, if_neg h]; rfl)).mono ?_
 rw [← hD]
 rintro e qbU ⟨A1, c1, B1, d1, rfl, H2⟩
 clear hD
 simp only [qc, lgc, List.cons_append, List.nil_append]
 have n_ : aC (Sep w qbU [row k67 67 (.slice A1 (D.1.L.l).length c1) D.1.L.l, row k41 41 (.slice B1 (D.1.es).length d1) D.1.es, box gx [.int .u64 (jH Q).f0, .string (jH Q).f1, .bool (jH Q).f2] 41, box gq [.slice A Q.L.l.length c, .bool Q.L.dn, .int .i64 Q.L.fu, .int .i64 Q.L.fa, .int .i64 Q.L.size, .int .u64 Q.L.fr, .int .u64 Q.L.nx, .bool Q.L.br, .slice B Q.es.length d, .int .i64 Q.most] 33, box gz [.slice none 0 0, .bool false, .int .i64 0, .int .i64 0, .int .i64 0, .int .u64 0, .int .u64 0, .bool false, .slice none 0 0, .int .i64 0] 33, box gy [.int .u64 0, .string ⟨#[]⟩, .bool false] 41]) := ⟨H2.out⟩
 clear H c_x c_y z_y c_z z_z c_q z_q
 have H := n_
 clear n_
 have c_x := H.out.cell (g := gx) mem2
 have c_q := H.out.cell (g := gq) mem3
 have z_q := H.out.frozen (g := gq) mem3
 have c_z := H.out.cell (g := gz) dM
 have z_z := H.out.frozen (g := gz) dM
 have c_y := H.out.cell (g := gy) eF
 have z_y := H.out.frozen (g := gy) eF
 clear H2
 have hZD : D = Z := HD.out.trans HZ.out.symm
 subst hZD
 rw [← HX.out] at H
 clear HD
 clear c_x c_q z_q c_z z_z c_y z_y
 have c_x := H.out.cell (g := gx) mem2
 have c_q := H.out.cell (g := gq) mem3
 have z_q := H.out.frozen (g := gq) mem3
 have c_z := H.out.cell (g := gz) dM
 have z_z := H.out.frozen (g := gz) dM
 have c_y := H.out.cell (g := gy) eF
 have z_y := H.out.frozen (g := gy) eF
 go_upto_region 3 with (first
 |((with_reducible refine aX (t := 33) (p := 1) rfl ?_);
   refine bM (rs1 := [row k67 67 (.slice A1 (D.1.L.l).length c1) D.1.L.l, row k41 41 (.slice B1 (D.1.es).length d1) D.1.es, box gx [.int .u64 X.f0, .string X.f1, .bool X.f2] 41, box gq [.slice A1 D.1.L.l.length c1, .bool D.1.L.dn, .int .i64 D.1.L.fu, .int .i64 D.1.L.fa, .int .i64 D.1.L.size, .int .u64 D.1.L.fr, .int .u64 D.1.L.nx, .bool D.1.L.br, .slice B1 D.1.es.length d1, .int .i64 D.1.most] 33, box gz [.slice none 0 0, .bool false, .int .i64 0, .int .i64 0, .int .i64 0, .int .u64 0, .int .u64 0, .bool false, .slice none 0 0, .int .i64 0] 33, box gy [.int .u64 0, .string ⟨#[]⟩, .bool false] 41]) rfl (t := 33) (p := 1) rfl rfl ?hr (H1 := (Sep.eU (Sep.eU (Sep.eU (Sep.eU (Sep.eU (Sep.eU (Sep.eU (Sep.eU (Sep.eU (Sep.eU H.out 0 (.slice A1 D.1.L.l.length c1) rfl) 1 (.bool D.1.L.dn) rfl) 2 (.int .i64 D.1.L.fu) rfl) 3 (.int .i64 D.1.L.fa) rfl) 4 (.int .i64 D.1.L.size) rfl) 5 (.int .u64 D.1.L.fr) rfl) 6 (.int .u64 D.1.L.nx) rfl) 7 (.bool D.1.L.br) rfl) 8 (.slice B1 D.1.es.length d1) rfl) 9 (.int .i64 D.1.most) rfl)) ?_;
   (case hr => first | (go_simp; done) | (go_simp; rfl));
   intro qcW n_;
   clear H c_x c_q z_q c_z z_z c_y z_y;
   have H := n_;
   clear n_;
   have c_x := H.out.cell (g := gx) mem2;
   have c_q := H.out.cell (g := gq) mem3;
   have z_q := H.out.frozen (g := gq) mem3;
   have c_z := H.out.cell (g := gz) dM;
   have z_z := H.out.frozen (g := gz) dM;
   have c_y := H.out.cell (g := gy) eF;
   have z_y := H.out.frozen (g := gy) eF)
 |fail)
 have TJ : ¬ gq = gz := yE H.out (i := 3) (j := 4) rfl rfl (by decide)
 have qcd : ¬ gz = gq := fun e => TJ e.symm
 have qdR : ¬ gq = gy := yE H.out (i := 3) (j := 5) rfl rfl (by decide)
 have qfr : ¬ gy = gq := fun e => qdR e.symm
 have qdS : ¬ gx = gz := yE H.out (i := 2) (j := 4) rfl rfl (by decide)
 have qfs : ¬ gz = gx := fun e => qdS e.symm
 have qdT : ¬ gx = gy := yE H.out (i := 2) (j := 5) rfl rfl (by decide)
 have qft : ¬ gy = gx := fun e => qdT e.symm
 have qdU : ¬ gz = gy := yE H.out (i := 4) (j := 5) rfl rfl (by decide)
 have qfu : ¬ gy = gz := fun e => qdU e.symm
 go_upto_region 3 with fail
 go_region
 refine uI (rs := [row k67 67 (.slice A1 (D.1.L.l).length c1) D.1.L.l, row k41 41 (.slice B1 (D.1.es).length d1) D.1.es, box gx [.int .u64 X.f0, .string X.f1, .bool X.f2] 41, box gq [.slice A1 D.1.L.l.length c1, .bool D.1.L.dn, .int .i64 D.1.L.fu, .int .i64 D.1.L.fa, .int .i64 D.1.L.size, .int .u64 D.1.L.fr, .int .u64 D.1.L.nx, .bool D.1.L.br, .slice B1 D.1.es.length d1, .int .i64 D.1.most] 33, box gz [.slice A1 D.1.L.l.length c1, .bool D.1.L.dn, .int .i64 D.1.L.fu, .int .i64 D.1.L.fa, .int .i64 D.1.L.size, .int .u64 D.1.L.fr, .int .u64 D.1.L.nx, .bool D.1.L.br, .slice B1 D.1.es.length d1, .int .i64 D.1.most] 33, box gy [.int .u64 X.f0, .string X.f1, .bool X.f2] 41]) (Sep.drew (Sep.iJ (Sep.iJ (Sep.iJ (Sep.kM (Sep.kM (Sep.kM (Sep.kM (Sep.kM (Sep.kM (Sep.kM (Sep.kM (Sep.kM (Sep.kM H.out 0 (.slice A1 D.1.L.l.length c1) rfl) 1 (.bool D.1.L.dn) rfl) 2 (.int .i64 D.1.L.fu) rfl) 3 (.int .i64 D.1.L.fa) rfl) 4 (.int .i64 D.1.L.size) rfl) 5 (.int .u64 D.1.L.fr) rfl) 6 (.int .u64 D.1.L.nx) rfl) 7 (.bool D.1.L.br) rfl) 8 (.slice B1 D.1.es.length d1) rfl) 9 (.int .i64 D.1.most) rfl) 0 (.int .u64 X.f0) rfl) 1 (.string X.f1) rfl) 2 (.bool X.f2) rfl)) ?_
 intro qaw n_
 clear H c_x c_q z_q c_z z_z c_y z_y
 have H := n_
 clear n_
 have c_x := H.out.cell (g := gx) mem2
 have c_q := H.out.cell (g := gq) mem3
 have z_q := H.out.frozen (g := gq) mem3
 have c_z := H.out.cell (g := gz) dM
 have z_z := H.out.frozen (g := gz) dM
 have c_y := H.out.cell (g := gy) eF
 have z_y := H.out.frozen (g := gy) eF
 clear TJ qcd qdR qfr qdS qfs qdT qft qdU qfu
 go_wp2_with fail
 refine bodyPost_ret (dS (rs := [.cell 2 33, .cell 3 41, .tmp 4]) rfl (by simp) (.cell gz 33 _ _ _ rfl (H.out.lD (g := gz) dM) Tryz.underlying33 rfl info33 (.cell gy 41 _ _ _ rfl (H.out.lD (g := gy) eF) Tryz.underlying41 rfl qdm (.tmp .nil)))) rfl ?_
 exact ⟨A1, c1, B1, d1, rfl, ⟨(Sep.drop2 (Sep.jU (Sep.oK (Sep.xQ H.out))))⟩⟩
set_option maxHeartbeats 8000000 in
theorem qdv (A : Option Addr) (c : Nat) (B : Option Addr) (d : Nat) (Q : Qu) (q : Int) (w : World) (hr : Kd.C k67 w A Q.L.l.length Q.L.l) (hc : Q.L.l.length ≤ c) (hre : Kd.C k41 w B Q.es.length Q.es) (hce : Q.es.length ≤ d) (hG : Gl w) (h0 : 0 ≤ Q.L.fr) (hnx : 0 ≤ Q.L.nx) (hnx2 : Q.L.nx < 18446744073709551616) (hq0 : 0 ≤ q) (hq1 : q < 18446744073709551616) :
  Calls Tryz.prog 22 #[.agg (qc A c B d Q).toArray, .int .u64 q] w fun e w' => ∃ A' c' B' d', e = .returned (.tuple #[.agg (qc A' c' B' d' (pU Q q).1).toArray, .int .i64 (pU Q q).2]) ∧ aC (Sep w w' [oO A' c' (pU Q q).1.L.l, uG B' d' (pU Q q).1.es]) := by
 have HRp := aC.mk hr
 have HCp := aC.mk hc
 have HRe := aC.mk hre
 have HCe := aC.mk hce
 have HG := aC.mk hG
 have HF := aC.mk h0
 have HN0 := aC.mk hnx
 have HN1 := aC.mk hnx2
 clear hr hc hre hce hG h0 hnx hnx2
 simp only [qc, lgc, List.cons_append, List.nil_append]
 obtain ⟨Z, hZ⟩ : ∃ Z, Z = (pU Q q) := ⟨_, rfl⟩
 rw [← hZ]
 have HZ := aC.mk hZ
 clear hZ
 have H := aC.mk (Sep.start w)
 have HQ0 := aC.mk hq0
 have HQ1 := aC.mk hq1
 clear hq0 hq1
 go_enter Tryz.func22, Tryz.ntmps22
 go_wp2_with (first
 |((with_reducible refine aV (N := 2) rfl ?_);
   refine bP rfl H (cs := [.slice A Q.L.l.length c, .bool Q.L.dn, .int .i64 Q.L.fu, .int .i64 Q.L.fa, .int .i64 Q.L.size, .int .u64 Q.L.fr, .int .u64 Q.L.nx, .bool Q.L.br, .slice B Q.es.length d, .int .i64 Q.most]) (t := 33) ?hr ?_;
   (case hr => first | (go_simp; done) | (go_simp; rfl));
   intro gq qfe n_;
   simp only [Act.put, zA, zZ, zS];
   clear H;
   have H := n_;
   clear n_;
   have c_q := H.out.cell (g := gq) aQ;
   have z_q := H.out.frozen (g := gq) aQ)
 |((with_reducible refine aV (N := 3) rfl ?_);
   refine bP rfl H (cs := [.int .u64 q]) (t := 28) ?hr ?_;
   (case hr => first | (go_simp; done) | (go_simp; rfl));
   intro gs qcZ n_;
   simp only [Act.put, zA, zZ, zS];
   clear H c_q z_q;
   have H := n_;
   clear n_;
   have c_s := H.out.cell (g := gs) aQ;
   have c_q := H.out.cell (g := gq) mem1;
   have z_q := H.out.frozen (g := gq) mem1)
 |((with_reducible refine aV (N := 4) rfl ?_);
   refine bP rfl H (cs := [.slice none 0 0, .bool false, .int .i64 0, .int .i64 0, .int .i64 0, .int .u64 0, .int .u64 0, .bool false, .slice none 0 0, .int .i64 0]) (t := 33) ?hr ?_;
   (case hr => first | (go_simp; done) | (go_simp; rfl));
   intro gz qff n_;
   simp only [Act.put, zA, zZ, zS];
   clear H c_s c_q z_q;
   have H := n_;
   clear n_;
   have c_z := H.out.cell (g := gz) aQ;
   have z_z := H.out.frozen (g := gz) aQ;
   have c_s := H.out.cell (g := gs) mem1;
   have c_q := H.out.cell (g := gq) mem2;
   have z_q := H.out.frozen (g := gq) mem2)
 |fail)
 obtain ⟨D, hD⟩ : ∃ D, D = lH Q (zK Q q) := ⟨_, rfl⟩
 have HD := aC.mk hD
 refine (BG (fdo := 59) (lb := [.pointer (some ⟨gs, 0, none⟩)]) (rs := [box gs [.int .u64 q] 28, box gq [.slice A Q.L.l.length c, .bool Q.L.dn, .int .i64 Q.L.fu, .int .i64 Q.L.fa, .int .i64 Q.L.size, .int .u64 Q.L.fr, .int .u64 Q.L.nx, .bool Q.L.br, .slice B Q.es.length d, .int .i64 Q.most] 33, box gz [.slice none 0 0, .bool false, .int .i64 0, .int .i64 0, .int .i64 0, .int .u64 0, .int .u64 0, .bool false, .slice none 0 0, .int .i64 0] 33]) (rs2 := [box gs [.int .u64 q] 28, box gq [.slice A Q.L.l.length c, .bool Q.L.dn, .int .i64 Q.L.fu, .int .i64 Q.L.fa, .int .i64 Q.L.size, .int .u64 Q.L.fr, .int .u64 Q.L.nx, .bool Q.L.br, .slice B Q.es.length d, .int .i64 Q.most] 33, box gz [.slice none 0 0, .bool false, .int .i64 0, .int .i64 0, .int .i64 0, .int .u64 0, .int .u64 0, .bool false, .slice none 0 0, .int .i64 0] 33]) A c B d Q (zK Q q) HRp.out HCp.out HRe.out HCe.out HF.out (fun args w => by simp [go_sem]) ⟨(Sep.gY (Sep.gY H.out))⟩ (fun hok hbr => yN (qeD w Q gs q HQ0.out HQ1.out HG.out HN0.out HN1.out HF.out hok) [box gq [.slice A Q.L.l.length c, .bool Q.L.dn, .int .i64 Q.L.fu, .int .i64 Q.L.fa, .int .i64 Q.L.size, .int .u64 Q.L.fr, .int .u64 Q.L.nx, .bool Q.L.br, .slice B Q.es.length d, .int .i64 Q.most] 33, box gz [.slice none 0 0, .bool false, .int .i64 0, .int .i64 0, .int .i64 0, .int .u64 0, .int .u64 0, .bool false, .slice none 0 0, .int .i64 0] 33]) (fun _ _ => rfl) (fun _ => rfl)).mono ?_
 rw [← hD]
 rintro e qes ⟨A1, c1, B1, d1, rfl, H2⟩
 clear hD
 simp only [qc, lgc, List.cons_append, List.nil_append]
 have n_ : aC (Sep w qes [row k67 67 (.slice A1 (D.1.L.l).length c1) D.1.L.l, row k41 41 (.slice B1 (D.1.es).length d1) D.1.es, box gs [.int .u64 q] 28, box gq [.slice A Q.L.l.length c, .bool Q.L.dn, .int .i64 Q.L.fu, .int .i64 Q.L.fa, .int .i64 Q.L.size, .int .u64 Q.L.fr, .int .u64 Q.L.nx, .bool Q.L.br, .slice B Q.es.length d, .int .i64 Q.most] 33, box gz [.slice none 0 0, .bool false, .int .i64 0, .int .i64 0, .int .i64 0, .int .u64 0, .int .u64 0, .bool false, .slice none 0 0, .int .i64 0] 33]) := ⟨H2.out⟩
 clear H c_z z_z c_s c_q z_q
 have H := n_
 clear n_
 have c_s := H.out.cell (g := gs) mem2
 have c_q := H.out.cell (g := gq) mem3
 have z_q := H.out.frozen (g := gq) mem3
 have c_z := H.out.cell (g := gz) dM
 have z_z := H.out.frozen (g := gz) dM
 clear H2
 have hZD : D = Z := HD.out.trans HZ.out.symm
 subst hZD
 clear HD
 go_wp2_with (first
 |((with_reducible refine aX (t := 33) (p := 4) rfl ?_);
   refine bM (rs1 := [row k67 67 (.slice A1 (D.1.L.l).length c1) D.1.L.l, row k41 41 (.slice B1 (D.1.es).length d1) D.1.es, box gs [.int .u64 q] 28, box gq [.slice A Q.L.l.length c, .bool Q.L.dn, .int .i64 Q.L.fu, .int .i64 Q.L.fa, .int .i64 Q.L.size, .int .u64 Q.L.fr, .int .u64 Q.L.nx, .bool Q.L.br, .slice B Q.es.length d, .int .i64 Q.most] 33, box gz [.slice A1 D.1.L.l.length c1, .bool D.1.L.dn, .int .i64 D.1.L.fu, .int .i64 D.1.L.fa, .int .i64 D.1.L.size, .int .u64 D.1.L.fr, .int .u64 D.1.L.nx, .bool D.1.L.br, .slice B1 D.1.es.length d1, .int .i64 D.1.most] 33]) rfl (t := 33) (p := 4) rfl rfl ?hr (H1 := (Sep.kM (Sep.kM (Sep.kM (Sep.kM (Sep.kM (Sep.kM (Sep.kM (Sep.kM (Sep.kM (Sep.kM H.out 0 (.slice A1 D.1.L.l.length c1) rfl) 1 (.bool D.1.L.dn) rfl) 2 (.int .i64 D.1.L.fu) rfl) 3 (.int .i64 D.1.L.fa) rfl) 4 (.int .i64 D.1.L.size) rfl) 5 (.int .u64 D.1.L.fr) rfl) 6 (.int .u64 D.1.L.nx) rfl) 7 (.bool D.1.L.br) rfl) 8 (.slice B1 D.1.es.length d1) rfl) 9 (.int .i64 D.1.most) rfl)) ?_;
   (case hr => first | (go_simp; done) | (go_simp; rfl));
   intro qc0 n_;
   clear H c_s c_q z_q c_z z_z;
   have H := n_;
   clear n_;
   have c_s := H.out.cell (g := gs) mem2;
   have c_q := H.out.cell (g := gq) mem3;
   have z_q := H.out.frozen (g := gq) mem3;
   have c_z := H.out.cell (g := gz) dM;
   have z_z := H.out.frozen (g := gz) dM)
 |fail)
 refine bodyPost_ret (dS (rs := [.cell 4 33, .tmp 5]) rfl (by simp) (.cell gz 33 _ _ _ rfl (H.out.lD (g := gz) dM) Tryz.underlying33 rfl info33 (.tmp .nil))) rfl ?_
 exact ⟨A1, c1, B1, d1, rfl, ⟨(Sep.drop2 (Sep.jU (Sep.oK H.out)))⟩⟩
end Go.Proofs.U
namespace Go.Proofs.U
open Go.RowKit Go.Proofs.aA.aK Go.Proofs.aA.aW Go.Proofs.aA.aZ
attribute [local go_sem] gV gW iU iV fU fV gZ iC
theorem qfv (d : Nat) (w : World) (x0 y0 : ByteArray) (x1 y1 : ByteArray) (x2 y2 : Int) :
  (Op.equalIn (d + 2) 67 (.agg #[.string x0, .string x1, .int .i64 x2]) (.agg #[.string y0, .string y1, .int .i64 y2])).run Tryz.prog w = .ok (x0.toList == y0.toList && (x1.toList == y1.toList && (x2 == y2))) w := by
 refine UW Tryz.underlying67 (by kernel_rfl) ?_
 refine xP (by rfl) (by go_simp; rfl) (by go_simp; rfl) (by go_simp) ?_
 refine xP (by rfl) (by go_simp; rfl) (by go_simp; rfl) (by go_simp) ?_
 exact JO (by rfl) (by go_simp; rfl) (by go_simp; rfl) (by go_simp)
end Go.Proofs.U
namespace Go.Proofs.U
open Go.RowKit Go.Proofs.aA.aK Go.Proofs.aA.aW Go.Proofs.aA.aZ
attribute [local go_sem] gV gW iU iV fU fV gZ iC
attribute [local go_sem high] qfv
end Go.Proofs.U
namespace Go.Proofs.U
open Go.RowKit Go.Proofs.aA.aK Go.Proofs.aA.aW Go.Proofs.aA.aZ
theorem KX {l l' : List S67} (h : bI l = true) (hn : names l' = names l) (ho : ∀ x ∈ l', GY x) : bI l' = true := by
 have h' := (iR l).1 h
 refine (iR l').2 ⟨by rw [hn]; exact h'.1, ho, ?_⟩
 have : (names l').length = (names l).length := by rw [hn]
 simp only [names, List.length_map] at this
 omega
theorem TK (l : List S67) (ks : List Int) : names (fA l ks) = names l := by
 unfold names fA
 apply List.ext_getElem?
 intro i
 simp only [List.getElem?_map, List.getElem?_mapIdx]
 cases l[i]? <;> rfl
theorem NH {x : S67} (h : GY x) (k : Option Int) : GY (rU x k) ∧ ((rU x k).f1.size : Int) = (rU x k).f2 := by
 have hr := wJ h.2.2.1 h.2.2.2 k
 have h2 := h.2.2.1
 have h1 := h.2.1
 have hs : ((x.f1.extract 0 (lV x k).toNat).size : Int) = lV x k := by
  simp only [ByteArray.size_extract]
  omega
 refine ⟨⟨h.1, ?_, ?_, ?_⟩, hs⟩
 ·show (x.f1.extract 0 (lV x k).toNat).size ≤ 262144
  simp only [ByteArray.size_extract]
  omega
 ·show 0 ≤ lV x k
  omega
 ·show lV x k ≤ ((x.f1.extract 0 (lV x k).toNat).size : Int)
  omega
theorem NI {l : List S67} {ks : List Int} {y : S67} (h : y ∈ fA l ks) : ∃ (i : Nat) (x : S67), l[i]? = some x ∧ y = rU x ks[i]? := by
 obtain ⟨i, hi⟩ := List.getElem?_of_mem h
 simp only [fA, List.getElem?_mapIdx] at hi
 cases e : l[i]? with
 | none => rw [e] at hi; cases hi
 | some x =>
  rw [e] at hi
  injection hi with hi
  exact ⟨i, x, e, hi.symm⟩
theorem TL {l : List S67} (h : bI l = true) (ks : List Int) : bI (fA l ks) = true := by
 refine KX h (TK l ks) fun y hy => ?_
 obtain ⟨i, x, hx, rfl⟩ := NI hy
 exact (NH (((iR l).1 h).2.1 x (List.mem_of_getElem? hx)) _).1
theorem IC {x : S67} (h : (x.f1.size : Int) = x.f2) (k : Option Int) : rU x k = x := by
 have hS : lV x k = x.f2 := by
  cases k with
  | none => rfl
  | some v =>
   simp only [lV, mn, mx]
   split <;> split <;> omega
 unfold rU
 rw [hS]
 have e : x.f2.toNat = x.f1.size := by omega
 rw [e, ByteArray.extract_zero_size]
end Go.Proofs.U
namespace Go.Proofs.U
open Go.RowKit Go.Proofs.aA.aK Go.Proofs.aA.aW Go.Proofs.aA.aZ Go.Proofs.Sp Go.Proofs.dZ
theorem DZ {α : Type} {p : α} : ∀ {a a' b b' : List α}, p ∉ a → p ∉ a' → a ++ p :: b = a' ++ p :: b' → a = a' ∧ b = b'
 | [], [], _, _, _, _, h => by simpa using h
 | [], y :: a', _, _, _, h2, h => by
  simp only [List.nil_append, List.cons_append, List.cons.injEq] at h
  exact absurd (by rw [← h.1]; exact List.mem_cons_self ..) h2
 | y :: a, [], _, _, h1, _, h => by
  simp only [List.nil_append, List.cons_append, List.cons.injEq] at h
  exact absurd (by rw [h.1]; exact List.mem_cons_self ..) h1
 | y :: a, z :: a', b, b', h1, h2, h => by
  simp only [List.cons_append, List.cons.injEq] at h
  obtain ⟨rfl, h⟩ := h
  obtain ⟨rfl, rfl⟩ := DZ (fun g => h1 (List.mem_cons_of_mem _ g)) (fun g => h2 (List.mem_cons_of_mem _ g)) h
  exact ⟨rfl, rfl⟩
theorem lK (a b : List S67) : aN (a ++ b) = aN a ++ aN b := List.filterMap_append ..
theorem lC {l : List S67} {p : Pl} : p ∈ aN l ↔ p.1 ∈ l ∧ numOf p.1.f0 = some p.2 := by
 constructor
 ·intro h
  obtain ⟨f, hf, he⟩ := List.mem_filterMap.1 h
  cases hn : numOf f.f0 with
  | none => rw [hn] at he; cases he
  | some n =>
   rw [hn] at he
   injection he with he
   subst he
   exact ⟨hf, hn⟩
 ·rintro ⟨h1, h2⟩
  refine List.mem_filterMap.2 ⟨p.1, h1, ?_⟩
  rw [h2, Option.map_some]
theorem qdw (N : ByteArray → Option Nat) {x : S67} {n : Nat} (h : N x.f0 = some n) (l : List S67) : (x :: l).filterMap (fun f => (N f.f0).map fun n => (f, n)) = (x, n) :: l.filterMap (fun f => (N f.f0).map fun n => (f, n)) := by
 simp only [List.filterMap_cons, h, Option.map_some]
theorem qP {x : S67} {n : Nat} (h : numOf x.f0 = some n) (l : List S67) : aN (x :: l) = (x, n) :: aN l := qdw numOf h l
theorem qce {l : List S67} {i : Nat} {x : S67} (h : l[i]? = some x) : l = l.take i ++ x :: l.drop (i + 1) := by
 obtain ⟨hi, e⟩ := List.getElem?_eq_some_iff.1 h
 conv => lhs; rw [← List.take_append_drop i l]
 rw [List.drop_eq_getElem_cons hi, e]
theorem iZ {l : List S67} (h : bI l = true) {a b : List Pl} {p : Pl} (hp : aN l = a ++ p :: b) :
  l[bsOf l p.1.f0]? = some p.1 ∧ kG l p.1.f0 (bsOf l p.1.f0) = true ∧ numOf p.1.f0 = some p.2 ∧ a = aN (l.take (bsOf l p.1.f0)) ∧ b = aN (l.drop (bsOf l p.1.f0 + 1)) := by
 have hm : p ∈ aN l := by rw [hp]; simp
 obtain ⟨h1, h2⟩ := lC.1 hm
 have hb := DT h p.1.f0 h1 rfl
 refine ⟨hb, (tJ _ _ _).2 ⟨p.1, hb, rfl⟩, h2, ?_⟩
 have hn : ∀ (c : List Pl) (d : List S67), c = aN (l.take (bsOf l p.1.f0)) → p ∉ c := by
  rintro c d rfl hc
  obtain ⟨h3, _⟩ := lC.1 hc
  obtain ⟨k, hk⟩ := List.getElem?_of_mem h3
  have hkb : k < bsOf l p.1.f0 := by
   have := (List.getElem?_eq_some_iff.1 hk).1
   simp only [List.length_take] at this
   omega
  rw [List.getElem?_take_of_lt hkb] at hk
  exact J5 (tH h hkb hk hb) rfl
 have hs : aN l = aN (l.take (bsOf l p.1.f0)) ++ p :: aN (l.drop (bsOf l p.1.f0 + 1)) := by
  conv => lhs; rw [qce hb, lK, qP h2]
 refine DZ ?_ (hn _ [] rfl) (hp.symm.trans hs)
 intro ha
 obtain ⟨i, hi⟩ := List.getElem?_of_mem ha
 have e1 : (aN l)[i]? = some p := by
  rw [hp, List.getElem?_append_left (List.getElem?_eq_some_iff.1 hi).1, hi]
 have e2 : (aN l)[a.length]? = some p := by rw [hp]; simp
 have hlt : i < a.length := (List.getElem?_eq_some_iff.1 hi).1
 have hnd : (aN l).Pairwise (fun p q => BL p.1.f0.toList q.1.f0.toList) := by
  have hp0 : l.Pairwise (fun x y => BL x.f0.toList y.f0.toList) := by
   have h0 := G7 h
   rw [names, List.pairwise_map] at h0
   exact h0
  refine List.Pairwise.filterMap _ ?_ hp0
  intro x y hxy p1 hp1 q1 hq1
  cases hx : numOf x.f0 with
  | none => rw [hx] at hp1; cases hp1
  | some n =>
   rw [hx] at hp1
   cases hp1
   cases hy : numOf y.f0 with
   | none => rw [hy] at hq1; cases hq1
   | some m =>
    rw [hy] at hq1
    cases hq1
    exact hxy
 obtain ⟨j1, e1'⟩ := List.getElem?_eq_some_iff.1 e1
 obtain ⟨j2, e2'⟩ := List.getElem?_eq_some_iff.1 e2
 have := List.pairwise_iff_getElem.1 hnd i a.length j1 j2 hlt
 rw [e1', e2'] at this
 exact J5 this rfl
theorem oU {l : List S67} (h : bI l = true) {a b : List Pl} {p : Pl} (hp : aN l = a ++ p :: b) : aN (l.take (bsOf l p.1.f0) ++ l.drop (bsOf l p.1.f0 + 1)) = a ++ b := by
 obtain ⟨_, _, _, h1, h2⟩ := iZ h hp
 rw [lK, ← h1, ← h2]
theorem qQ {l : List S67} (h : bI l = true) {a b : List Pl} {p : Pl} (hp : aN l = a ++ p :: b) {y : S67} (hy : y.f0 = p.1.f0) : aN (l.set (bsOf l p.1.f0) y) = a ++ (y, p.2) :: b := by
 obtain ⟨h0, _, h3, h1, h2⟩ := iZ h hp
 have hi := (List.getElem?_eq_some_iff.1 h0).1
 rw [List.set_eq_take_append_cons_drop, if_pos hi, lK, qP (by rw [hy]; exact h3), ← h1, ← h2]
theorem kE {l : List S67} {dn : Bool} {fu fa : Int} {s : ByteArray} {wr : Bool} {rf : Int → Bool → Int} {df : Int → List S67} (h : (bW l dn fu fa s wr rf df).2.2.2.2 = 0) :
  bI l = true ∧ dn = false ∧ rf (bsOf l s) (kG l s (bsOf l s)) = 0 ∧ (bW l dn fu fa s wr rf df).1 = df (bsOf l s) ∧ (bW l dn fu fa s wr rf df).2.1 = false := by
 unfold bW at h ⊢
 split at h
 ·rename_i hr
  split at h
  ·cases h
  ·rename_i hd
   split at h
   ·rename_i hrf
    split at h
    ·cases h
    ·rename_i hf
     split at h
     ·cases h
     ·rename_i hu
      refine ⟨hr, by simpa using hd, hrf, ?_⟩
      rw [if_pos hr, if_neg hd, if_pos hrf, if_neg hf, if_neg hu]
      exact ⟨rfl, by simpa using hd⟩
   ·rename_i hrf
    exact absurd h hrf
 ·cases h
theorem WC {L : Lg} {a b : List Pl} {p : Pl} (hp : aN L.l = a ++ p :: b) (hz : (fE L.l L.dn L.fu L.fa p.1.f0).2.2.2.2 = 0) :
  bI (fE L.l L.dn L.fu L.fa p.1.f0).1 = true ∧ aN (fE L.l L.dn L.fu L.fa p.1.f0).1 = a ++ b ∧ L.dn = false ∧ (fE L.l L.dn L.fu L.fa p.1.f0).2.1 = false := by
 obtain ⟨h1, h2, h3, h4, h5⟩ := kE hz
 have e : (fE L.l L.dn L.fu L.fa p.1.f0).1 = L.l.take (bsOf L.l p.1.f0) ++ L.l.drop (bsOf L.l p.1.f0 + 1) := by
  rw [fE, h4]
  simp
 rw [e]
 exact ⟨sK h1 _, oU h1 hp, h2, h5⟩
theorem qdx {L : Lg} {a b : List Pl} {p : Pl} {e : Nat} (hp : aN L.l = a ++ p :: b) (hz : (DU L.l L.dn L.fu L.fa p.1.f0 (e : Int)).2.2.2.2 = 0) :
  bI (DU L.l L.dn L.fu L.fa p.1.f0 (e : Int)).1 = true ∧ aN (DU L.l L.dn L.fu L.fa p.1.f0 (e : Int)).1 = a ++ (⟨p.1.f0, p.1.f1.extract 0 e, (e : Int)⟩, p.2) :: b ∧ L.dn = false ∧ (DU L.l L.dn L.fu L.fa p.1.f0 (e : Int)).2.1 = false := by
 obtain ⟨h1, h2, h3, h4, h5⟩ := kE hz
 obtain ⟨g1, g2, _⟩ := iZ h1 hp
 have hg := (qbW h1 (e : Int) h3).1
 have e1 : (DU L.l L.dn L.fu L.fa p.1.f0 (e : Int)).1 = L.l.set (bsOf L.l p.1.f0) ⟨p.1.f0, p.1.f1.extract 0 e, (e : Int)⟩ := by
  rw [DU, h4]
  simp only [Int.toNat_natCast, iM g1]
 simp only [Int.toNat_natCast, iM g1] at hg
 rw [e1]
 exact ⟨hg, qQ h1 hp rfl, h2, h5⟩
theorem KY : ∀ (gs : List Pl) (L R : Lg) (front : List Pl), aN L.l = front ++ gs.reverse → bI L.l = true → L.dn = false → L.br = false → lZ L gs = (R, 0) →
  aN R.l = front ∧ bI R.l = true ∧ R.dn = false ∧ R.br = false ∧ R.size = L.size ∧ R.fr = L.fr ∧ R.nx = L.nx
 | [], L, R, front, hp, hr, hd, hb, h => by
  obtain ⟨rfl, _⟩ := Prod.mk.inj h
  exact ⟨by simpa using hp, hr, hd, hb, rfl, rfl, rfl⟩
 | p :: gs, L, R, front, hp, hr, hd, hb, h => by
  rw [lZ] at h
  by_cases hz : (fE L.l L.dn L.fu L.fa p.1.f0).2.2.2.2 = 0
  ·rw [if_pos hz] at h
   have hp' : aN L.l = (front ++ gs.reverse) ++ p :: [] := by rw [hp]; simp
   obtain ⟨h1, h2, h3, h4⟩ := WC hp' hz
   rw [List.append_nil] at h2
   obtain ⟨k1, k2, k3, k4, k5, k6, k7⟩ := KY gs (chg L (fE L.l L.dn L.fu L.fa p.1.f0)) R front h2 h1 h4 (by show (if _ then _ else _) = _; rw [if_pos hz]; exact hb) h
   exact ⟨k1, k2, k3, k4, k5, k6, k7⟩
  ·rw [if_neg hz] at h
   exact absurd (Prod.mk.inj h).2 hz
structure WF (L : Lg) (ds : List Bytes) (n m : Nat) : Prop where
 right : bI L.l = true
 dn : L.dn = false
 br : L.br = false
 lo : 1 ≤ L.size
 hi : L.size ≤ 262144
 first : dP (aN L.l) = n
 ch : chain SU n (aN L.l) ds m
 top : m ≤ most
 fr : L.fr = (n : Int)
 nx : L.nx = (m : Int)
theorem wS (S : Sum) : ∀ (n : Nat) (a : List Pl) (ds : List Bytes) (m : Nat), n ≤ most → chain S n a ds m → m ≤ most
 | n, [], ds, m, hn, h => by obtain ⟨rfl, rfl⟩ := h; exact hn
 | n, p :: r, ds, m, hn, h => by
  obtain ⟨h1, d1, d2, rfl, h3, h4⟩ := h
  obtain ⟨t, g1, g2, g3, g4, g5⟩ := lX S _ (byt p.1.f1) n (Nat.le_refl _)
  rw [h3] at g5
  exact wS S _ r d2 m (g5 hn) h4
theorem WE {l : List S67} : dP (aN l) ≤ most := by
 cases h : aN l with
 | nil => exact (by decide : 1 ≤ most)
 | cons p r =>
  have : p ∈ aN l := by rw [h]; simp
  exact (oD.1 (lC.1 this).2).1
theorem KZ {l : List S67} {dn : Bool} {fu fa size : Int} {R : Lg} {rs : List S62} (h : jG l dn fu fa size = (R, rs, 0)) : ∃ ds n m, WF R ds n m ∧ rs = bU ds n ∧ R.size = size := by
 unfold jG at h
 split at h
 case isFalse => cases h
 rename_i hr
 split at h
 case isTrue => cases h
 rename_i hs
 split at h
 case isTrue => cases h
 rename_i hd
 have hd : dn = false := by simpa using hd
 subst hd
 obtain ⟨n, hn⟩ : ∃ n, n = dP (aN l) := ⟨_, rfl⟩
 obtain ⟨F, hF⟩ : ∃ F, F = findF l := ⟨_, rfl⟩
 rw [← hn, ← hF] at h
 obtain ⟨h1, h2, h3⟩ : (iO ⟨l, false, fu, fa, size, 0, 0, false⟩ F n).1 = R ∧ (if (iO ⟨l, false, fu, fa, size, 0, 0, false⟩ F n).2 = 0 then bU F.recs n else []) = rs ∧ (iO ⟨l, false, fu, fa, size, 0, 0, false⟩ F n).2 = 0 := by
  simpa only [Prod.mk.injEq] using h
 rw [if_pos h3] at h2
 have hg : F = goF SU (aN l) n := by rw [hF, findF, hn]
 have hnm : n ≤ most := by rw [hn]; exact WE
 obtain ⟨kept, ds, m, hc, hh⟩ := xZ SU (aN l) n
 rw [← hg] at hh
 unfold iO at h1 h3
 split at h3
 case isFalse hz => exact absurd h3 hz
 rename_i hz
 rw [if_pos hz] at h1
 split at h3
 case isFalse hz2 => exact absurd h3 hz2
 rename_i hz2
 rw [if_pos hz2] at h1
 obtain ⟨T, hT⟩ : ∃ T, lZ ⟨l, false, fu, fa, size, 0, 0, false⟩ F.gone.reverse = (T, 0) := ⟨_, Prod.ext rfl hz⟩
 rw [hT] at h1 hz2
 rcases hh with ⟨a1, a2, a3, a4, a5⟩ | ⟨p, e, dt, a1, a2, a3, a4, a5, a6, a7⟩
 ·rw [a1, oV] at h1
  obtain ⟨k1, k2, k3, k4, k5, k6, k7⟩ := KY F.gone.reverse _ T kept (by rw [List.reverse_reverse]; exact a2) hr rfl rfl hT
  have k5' : T.size = size := k5
  subst h1
  have hf : dP kept = n := by
   cases kept with
   | nil =>
      obtain ⟨_, rfl⟩ := hc
      cases hps : aN l with
      | nil => rw [hn, hps]
      | cons p r =>
       rw [hps] at a2
       have := a5 p r a2.symm
       exact absurd (by rw [hn, hps]; rfl) this
   | cons p r => rw [hn, a2]; rfl
  refine ⟨ds, n, m, ⟨k2, k3, k4, by show 1 ≤ T.size; rw [k5']; omega, by show T.size ≤ 262144; rw [k5']; omega, by show dP (aN T.l) = n; rw [k1]; exact hf, by show chain SU n (aN T.l) ds m; rw [k1]; exact hc, wS SU n kept ds m hnm hc, rfl, by rw [a4]⟩, by rw [← h2, a3], k5⟩
 ·have hp2 : aN l = (kept ++ [p]) ++ F.gone := by rw [a2]; simp
  obtain ⟨k1, k2, k3, k4, k5, k6, k7⟩ := KY F.gone.reverse _ T (kept ++ [p]) (by rw [List.reverse_reverse]; exact hp2) hr rfl rfl hT
  have k5' : T.size = size := k5
  rw [a1, oV] at h1 hz2
  simp only at h1 hz2
  have k1' : aN T.l = kept ++ p :: [] := k1
  obtain ⟨c1, c2, c3, c4⟩ := qdx (L := T) (e := e) k1' hz2
  have hmm : m ≤ most := wS SU n kept ds m hnm hc
  have hrc := qbH SU a4 hmm
  have hc2 : chain SU n (aN (DU T.l T.dn T.fu T.fa p.1.f0 (e : Int)).1) (ds ++ dt) (m + dt.length) := by
   rw [c2]
   refine sH SU n kept _ ds dt m _ hc ⟨a3, dt, [], by simp, ?_, rfl, rfl⟩
   exact hrc.2
  have hf : dP (aN (DU T.l T.dn T.fu T.fa p.1.f0 (e : Int)).1) = n := by
   rw [c2]
   cases kept with
   | nil =>
      obtain ⟨_, rfl⟩ := hc
      exact a3
   | cons q r => rw [hn, a2]; rfl
  subst h1
  refine ⟨ds ++ dt, n, m + dt.length, ⟨c1, c4, ?_, by show 1 ≤ T.size; rw [k5']; omega, by show T.size ≤ 262144; rw [k5']; omega, hf, hc2, wS SU n _ _ _ hnm hc2, rfl, by rw [a7]⟩, by rw [← h2, a6], k5⟩
  show (if _ then _ else _) = _
  rw [if_pos hz2]
  exact k4
theorem WF.find {L : Lg} {ds : List Bytes} {n m : Nat} (h : WF L ds n m) : findF L.l = ⟨ds, m, none, []⟩ := by
 have := EZ SU n (aN L.l) [] ds m h.ch
 rw [List.append_nil] at this
 rw [findF, h.first, this]
 simp [goF]
theorem WF.opens {L : Lg} {ds : List Bytes} {n m : Nat} (h : WF L ds n m) : jG L.l L.dn L.fu L.fa L.size = (L, bU ds n, 0) := by
 have hlo := h.lo
 have hhi := h.hi
 rw [jG, if_pos h.right, if_neg (by omega), h.dn, if_neg (by simp), h.find, h.first]
 obtain ⟨l, dn, fu, fa, size, fr, nx, br⟩ := L
 have h1 := h.dn
 have h2 := h.br
 have h3 := h.fr
 have h4 := h.nx
 simp only at h1 h2 h3 h4
 subst h1 h2 h3 h4
 simp [iO, lZ, oV]
theorem WF.okL {L : Lg} {ds : List Bytes} {n m : Nat} (h : WF L ds n m) : okL L := by
 have h1 := oZ SU n _ ds m h.ch
 have h2 := h.top
 unfold most at h2
 exact ⟨h.right, h.lo, h.hi, by rw [h.fr, h.nx]; omega, by rw [h.nx]; omega⟩
theorem WF.records {L : Lg} {ds : List Bytes} {n m : Nat} (h : WF L ds n m) : TD L = (bU ds n, 0) := by
 rw [TD, if_pos h.okL, h.br, if_neg (by simp), h.dn, if_neg (by simp), h.find, h.first]
theorem D5 : ∀ (ds : List Bytes) (n i : Nat) (x : S62), (bU ds n)[i]? = some x → x.f0 = ((n + i : Nat) : Int)
 | [], n, i, x, h => by simp [bU] at h
 | d :: ds, n, 0, x, h => by
  simp only [bU, List.getElem?_cons_zero, Option.some.injEq] at h
  subst h
  rfl
 | d :: ds, n, i + 1, x, h => by
  simp only [bU, List.getElem?_cons_succ] at h
  have := D5 ds (n + 1) i x h
  rw [this]
  omega
theorem qdV : ∀ (a b : List UInt8), bl a b = Op.bytesLess a b
 | [], [] => rfl
 | _ :: _, [] => rfl
 | [], _ :: _ => rfl
 | x :: r, y :: s => by rw [bl, Op.bytesLess, qdV r s]
theorem wU (n : Nat) : (nameB n).toList = hexN 16 n := by rw [ByteArray.toList_eq]; exact qK _
theorem yO {n : Nat} (h : n ≤ most) : numOf (nameB n) = some n := oD.2 ⟨h, (qK _).symm⟩
theorem QD {s : ByteArray} {n : Nat} (h : numOf s = some n) : s = nameB n := pY ((oD.1 h).2.symm.trans (qK _).symm)
theorem qcf {a b : Nat} (hb : b ≤ most) (h : a < b) : BL (nameB a).toList (nameB b).toList := by
 have h16 : b < 16 ^ 16 := Nat.lt_of_le_of_lt hb (by decide)
 have := JC 16 a b h16 h
 rw [qdV] at this
 rw [wU, wU]
 exact this
theorem qeE (a : List UInt8) : ¬ BL a a := fun h => J5 h rfl
theorem LC (S : Sum) : ∀ (n : Nat) (a : List Pl) (ds : List Bytes) (m : Nat), chain S n a ds m → n ≤ m ∧ ∀ p ∈ a, p.2 ≤ m
 | n, [], ds, m, h => by obtain ⟨rfl, rfl⟩ := h; exact ⟨Nat.le_refl _, by simp⟩
 | n, p :: r, ds, m, h => by
  obtain ⟨h1, d1, d2, rfl, h3, h4⟩ := h
  obtain ⟨g1, g2⟩ := LC S _ r d2 m h4
  refine ⟨by omega, fun q hq => ?_⟩
  rcases List.mem_cons.1 hq with rfl | hq
  ·omega
  ·exact g2 q hq
theorem uO (S : Sum) : ∀ (n : Nat) (a b : List Pl) (ds : List Bytes) (m : Nat), chain S n (a ++ b) ds m → ∃ d1 d2 k, chain S n a d1 k ∧ chain S k b d2 m ∧ ds = d1 ++ d2
 | n, [], b, ds, m, h => ⟨[], ds, n, ⟨rfl, rfl⟩, h, rfl⟩
 | n, p :: a, b, ds, m, h => by
  obtain ⟨h1, d1, d2, rfl, h3, h4⟩ := h
  obtain ⟨e1, e2, k, k1, k2, rfl⟩ := uO S _ a b d2 m h4
  exact ⟨d1 ++ e1, e2, k, ⟨h1, d1, e1, rfl, h3, k1⟩, k2, by simp⟩
theorem rH {s : ByteArray} {k : Nat} {d1 : List Bytes} (h : readB SU (byt s) k = (d1, s.size)) : byt s = fQ SU k d1 ∧ ∀ d ∈ d1, d.length ≤ IZ := by
 obtain ⟨r, h1, h2, h3, _⟩ := lX SU _ (byt s) k (Nat.le_refl _)
 rw [h] at h1 h2 h3
 simp only at h1 h2 h3
 have h4 := congrArg List.length h1
 rw [dG, List.length_append, ← h2] at h4
 have : r = [] := List.length_eq_zero_iff.1 (by omega)
 subst this
 exact ⟨by simpa using h1, h3⟩
theorem qaF {s t : ByteArray} {k m : Nat} {d1 : List Bytes} {d : Bytes} (h : readB SU (byt s) k = (d1, s.size)) (hm : m = k + d1.length) (ht : byt t = frame SU m d) (hd : d.length ≤ IZ) (hlt : m < most) : readB SU (byt (s ++ t)) k = (d1 ++ [d], (s ++ t).size) := by
 obtain ⟨h1, h2⟩ := rH h
 have e : byt (s ++ t) = fQ SU k (d1 ++ [d]) := by
  rw [wL, xX, h1, ht, hm]
  simp [fQ]
 have hr := vM SU (ds := d1 ++ [d]) (n := k) (fun x hx => by
  rcases List.mem_append.1 hx with hx | hx
  ·exact h2 x hx
  ·rw [List.mem_singleton.1 hx]; exact hd) (by rw [List.length_append, List.length_singleton]; omega)
 rw [e, hr, ← e, dG]
theorem BH {L : Lg} {a b : List Pl} {p : Pl} {s : ByteArray} (hp : aN L.l = a ++ p :: b) (hz : (jI L.l L.dn L.fu L.fa p.1.f0 s).2.2.2.2 = 0) :
  bI (jI L.l L.dn L.fu L.fa p.1.f0 s).1 = true ∧ aN (jI L.l L.dn L.fu L.fa p.1.f0 s).1 = a ++ (⟨p.1.f0, p.1.f1 ++ s, p.1.f2⟩, p.2) :: b ∧ (jI L.l L.dn L.fu L.fa p.1.f0 s).2.1 = false ∧ (jI L.l L.dn L.fu L.fa p.1.f0 s).1.length = L.l.length := by
 obtain ⟨h1, h2, h3, h4, h5⟩ := kE hz
 obtain ⟨g1, g2, _⟩ := iZ h1 hp
 have hg := (yG h1 s h3).1
 have e1 : (jI L.l L.dn L.fu L.fa p.1.f0 s).1 = L.l.set (bsOf L.l p.1.f0) ⟨p.1.f0, p.1.f1 ++ s, p.1.f2⟩ := by
  rw [jI, h4]
  simp only [Int.toNat_natCast, iM g1]
 simp only [Int.toNat_natCast, iM g1] at hg
 rw [e1]
 exact ⟨hg, qQ h1 hp rfl, h5, List.length_set⟩
theorem qcg {L : Lg} {a b : List Pl} {p : Pl} (hp : aN L.l = a ++ p :: b) (hz : (rW L.l L.dn L.fu L.fa p.1.f0).2.2.2.2 = 0) :
  bI (rW L.l L.dn L.fu L.fa p.1.f0).1 = true ∧ aN (rW L.l L.dn L.fu L.fa p.1.f0).1 = a ++ (⟨p.1.f0, p.1.f1, (p.1.f1.size : Int)⟩, p.2) :: b ∧ (rW L.l L.dn L.fu L.fa p.1.f0).2.1 = false ∧ (rW L.l L.dn L.fu L.fa p.1.f0).1.length = L.l.length := by
 obtain ⟨h1, h2, h3, h4, h5⟩ := kE hz
 obtain ⟨g1, g2, _⟩ := iZ h1 hp
 have hg := (FQ h1 g2).1
 have e1 : (rW L.l L.dn L.fu L.fa p.1.f0).1 = L.l.set (bsOf L.l p.1.f0) ⟨p.1.f0, p.1.f1, (p.1.f1.size : Int)⟩ := by
  rw [rW, h4]
  simp only [Int.toNat_natCast, iM g1]
 simp only [Int.toNat_natCast, iM g1] at hg
 rw [e1]
 exact ⟨hg, qQ h1 hp rfl, h5, List.length_set⟩
theorem WG {l : List S67} (h : bI l = true) {m : Nat} (hm : m ≤ most) (hle : ∀ p ∈ aN l, p.2 ≤ m) (hi : kG l (nameB m) (bsOf l (nameB m)) = false) :
  aN (l.take (bsOf l (nameB m)) ++ [(⟨nameB m, ⟨#[]⟩, 0⟩ : S67)] ++ l.drop (bsOf l (nameB m))) = aN l ++ [((⟨nameB m, ⟨#[]⟩, 0⟩ : S67), m)] := by
 have hd : aN (l.drop (bsOf l (nameB m))) = [] := by
  rw [List.eq_nil_iff_forall_not_mem]
  intro p hp
  obtain ⟨h1, h2⟩ := lC.1 hp
  have hin : p ∈ aN l := lC.2 ⟨List.mem_of_mem_drop h1, h2⟩
  have hk := hle p hin
  obtain ⟨k, hk2⟩ := List.getElem?_of_mem h1
  rw [List.getElem?_drop] at hk2
  have hno := qbF h (nameB m) (by omega : bsOf l (nameB m) ≤ bsOf l (nameB m) + k) hk2
  have hnm := QD h2
  rcases Nat.lt_or_ge p.2 m with g | g
  ·exact hno (by rw [hnm]; exact qcf hm g)
  ·have e : p.2 = m := by omega
   have hx : p.1.f0.toList = (nameB m).toList := by rw [hnm, e]
   have hb := DT h (nameB m) (List.mem_of_mem_drop h1) hx
   rw [(tJ _ _ _).2 ⟨p.1, hb, hx⟩] at hi
   cases hi
 have ht : aN (l.take (bsOf l (nameB m))) = aN l := by
  conv => rhs; rw [← List.take_append_drop (bsOf l (nameB m)) l, lK, hd, List.append_nil]
 have e0 : aN ([] : List S67) = [] := List.filterMap_nil
 have hcs : aN [(⟨nameB m, ⟨#[]⟩, 0⟩ : S67)] = [((⟨nameB m, ⟨#[]⟩, 0⟩ : S67), m)] := (qP (x := ⟨nameB m, ⟨#[]⟩, 0⟩) (n := m) (yO hm) []).trans (by rw [e0])
 rw [lK, hd, List.append_nil, lK, ht, hcs]
theorem QE (k : Nat) : readB SU (byt (⟨#[]⟩ : ByteArray)) k = ([], 0) := rfl
theorem tZ {L R : Lg} {ds : List Bytes} {n m k : Nat} (h : WF L ds n m) (hs : gK L k = (R, 0)) : WF R ds n m ∧ R.size = L.size ∧ R.l.length ≤ L.l.length + 1 ∧ ∃ a p, aN R.l = a ++ [p] ∧ (p.1.f1.size + k ≤ 262144 ∨ p.1.f1.size = 0) := by
 unfold gK at hs
 split at hs
 ·rename_i hf
  obtain ⟨hs1, hz⟩ := Prod.mk.inj hs
  obtain ⟨h1, h2, h3, h4, h5⟩ := kE hz
  have hnx : L.nx.toNat = m := by rw [h.nx]; exact Int.toNat_natCast m
  rw [hnx] at hs1 h3 h4 h5 hz
  have hat : kG L.l (nameB m) (bsOf L.l (nameB m)) = false := by
   cases hh : kG L.l (nameB m) (bsOf L.l (nameB m)) with
   | false => rfl
   | true =>
    rw [hh] at h3
    unfold rfC at h3
    split at h3
    ·cases h3
    ·simp at h3
  have hle := (LC SU n _ ds m h.ch).2
  have e1 : (jO L.l L.dn L.fu L.fa (nameB m)).1 = L.l.take (bsOf L.l (nameB m)) ++ [(⟨nameB m, ⟨#[]⟩, 0⟩ : S67)] ++ L.l.drop (bsOf L.l (nameB m)) := by
   rw [jO, h4]
   simp
  have hpl : aN R.l = aN L.l ++ [((⟨nameB m, ⟨#[]⟩, 0⟩ : S67), m)] := by
   rw [← hs1]
   show aN (jO L.l L.dn L.fu L.fa (nameB m)).1 = _
   rw [e1]
   exact WG h.right h.top hle hat
  have hch : chain SU n (aN R.l) ds m := by
   rw [hpl, ← List.append_nil ds]
   exact sH SU n _ _ ds [] m m h.ch ⟨rfl, [], [], rfl, QE m, rfl, rfl⟩
  have qeF : dP (aN R.l) = n := by
   rw [hpl]
   have hfn := h.first
   cases hps : aN L.l with
   | nil =>
    have hc := h.ch
    rw [hps] at hc
    obtain ⟨_, rfl⟩ := hc
    rfl
   | cons p r =>
    rw [hps] at hfn
    exact hfn
  refine ⟨⟨?_, ?_, ?_, ?_, ?_, qeF, hch, h.top, ?_, ?_⟩, ?_, ?_, _, _, hpl, .inr rfl⟩
  ·rw [← hs1]
   show bI (jO L.l L.dn L.fu L.fa (nameB m)).1 = true
   rw [e1]
   exact (yF h.right h3).1
  ·rw [← hs1]; exact h5
  ·rw [← hs1]
   show (if _ then _ else _) = _
   rw [if_pos hz]
   exact h.br
  ·rw [← hs1]; exact h.lo
  ·rw [← hs1]; exact h.hi
  ·rw [← hs1]; exact h.fr
  ·rw [← hs1]; exact h.nx
  ·rw [← hs1]; rfl
  ·rw [← hs1]
   show (jO L.l L.dn L.fu L.fa (nameB m)).1.length ≤ _
   rw [e1]
   simp only [List.length_append, List.length_take, List.length_drop, List.length_singleton]
   have := XF L.l (nameB m)
   omega
 ·rename_i hf
  obtain ⟨rfl, _⟩ := Prod.mk.inj hs
  refine ⟨h, rfl, Nat.le_succ _, ?_⟩
  unfold isFull at hf
  cases hl : tK L.l with
  | none => rw [hl] at hf; exact absurd trivial hf
  | some p =>
   rw [hl] at hf
   simp only at hf
   have hl' : (aN L.l).getLast? = some p := hl
   obtain ⟨a, ha⟩ := List.getLast?_eq_some_iff.1 hl'
   exact ⟨a, p, ha, .inl (by omega)⟩
theorem sQ {l : List S67} {a : List Pl} {p : Pl} (h : aN l = a ++ [p]) : o8 l = p.1.f0 := by
 rw [o8, tK, h, List.getLast?_append]
 rfl
theorem qch {L R : Lg} {ds : List Bytes} {n m : Nat} {a : List Pl} {p : Pl} {s d : ByteArray} (h : WF L ds n m) (hp : aN L.l = a ++ [p]) (hs : byt s = frame SU m (byt d)) (hd : d.size ≤ 65536) (hm : m < most) (hR : oP L s = (R, 0)) :
  WF R (ds ++ [byt d]) n (m + 1) ∧ R.size = L.size ∧ R.l.length = L.l.length ∧ ∃ f, aN R.l = a ++ [(f, p.2)] ∧ f.f0 = p.1.f0 ∧ f.f1 = p.1.f1 ++ s ∧ f.f2 = (f.f1.size : Int) := by
 unfold oP at hR
 rw [sQ hp] at hR
 split at hR
 case isFalse hz => exact absurd (Prod.mk.inj hR).2 (by exact fun e => hz (by rw [hR]))
 rename_i hz
 split at hR
 case isFalse hz2 => exact absurd (Prod.mk.inj hR).2 (by exact fun e => hz2 (by rw [hR]))
 rename_i hz2
 obtain ⟨hR, _⟩ := Prod.mk.inj hR
 have hp' : aN L.l = a ++ p :: [] := hp
 obtain ⟨k1, k2, k3, k4⟩ := BH (L := L) hp' hz
 have hp2 : aN (fC L p.1.f0 s).1.l = a ++ ((⟨p.1.f0, p.1.f1 ++ s, p.1.f2⟩ : S67), p.2) :: [] := k2
 obtain ⟨j1, j2, j3, j4⟩ := qcg (L := (fC L p.1.f0 s).1) hp2 hz2
 obtain ⟨d1, d2, k, c1, c2, c3⟩ := uO SU n a [p] ds m (by rw [← hp]; exact h.ch)
 obtain ⟨c4, e1, e2, rfl, c5, c6, c7⟩ := c2
 subst c6
 have hrm := qaF (t := s) (d := byt d) c5 c7 hs (by rw [dG]; exact hd) hm
 have hpl : aN R.l = a ++ [((⟨p.1.f0, p.1.f1 ++ s, ((p.1.f1 ++ s).size : Int)⟩ : S67), p.2)] := by
  rw [← hR]
  exact j2
 have hch : chain SU n (aN R.l) (ds ++ [byt d]) (m + 1) := by
  rw [hpl, c3, List.append_nil, List.append_assoc]
  refine sH SU n a _ d1 (e1 ++ [byt d]) k (m + 1) c1 ⟨c4, e1 ++ [byt d], [], by simp, hrm, rfl, ?_⟩
  rw [List.length_append, List.length_singleton]
  omega
 have qeF : dP (aN R.l) = n := by
  rw [hpl]
  have hfn := h.first
  rw [hp] at hfn
  cases a with
  | nil => exact hfn
  | cons q r => exact hfn
 refine ⟨⟨?_, ?_, ?_, ?_, ?_, qeF, hch, by omega, ?_, ?_⟩, ?_, ?_, _, hpl, rfl, rfl, rfl⟩
 ·rw [← hR]; exact j1
 ·rw [← hR]; exact j3
 ·rw [← hR]
  exact (if_pos hz2).trans ((if_pos hz).trans h.br)
 ·rw [← hR]; exact h.lo
 ·rw [← hR]; exact h.hi
 ·rw [← hR]; exact h.fr
 ·rw [← hR]
  show L.nx + 1 = _
  rw [h.nx]
  rfl
 ·rw [← hR]; rfl
 ·rw [← hR]
  exact j4.trans k4
theorem zD {L R : Lg} {ds : List Bytes} {n m : Nat} {d : ByteArray} (h : WF L ds n m) (hR : bT L d = (R, 0)) : WF R (ds ++ [byt d]) n (m + 1) ∧ R.size = L.size ∧ R.l.length ≤ L.l.length + 1 ∧ d.size ≤ 65536 ∧ m < most := by
 rw [bT, if_pos h.okL, iW, h.br, if_neg (by simp)] at hR
 split at hR
 ·cases hR
 rename_i hd
 split at hR
 ·cases hR
 rename_i hm
 have hm2 : m < most := by
  rw [h.nx] at hm
  unfold most
  omega
 split at hR
 case isFalse hz => exact absurd (by rw [hR]) hz
 rename_i hz
 obtain ⟨L1, hL1⟩ : ∃ L1, gK L (dN L.nx d).size = (L1, 0) := ⟨_, Prod.ext rfl hz⟩
 rw [hL1] at hR
 obtain ⟨w1, w2, w3, a, p, w4, w5⟩ := tZ h hL1
 have hs : byt (dN L.nx d) = frame SU m (byt d) := by rw [h.nx]; exact pJ m d
 obtain ⟨v1, v2, v3, _⟩ := qch w1 w4 hs (by omega) hm2 hR
 exact ⟨v1, by rw [v2, w2], by omega, by omega, hm2⟩
theorem LD (n : Nat) : (nameB n).size = 16 := by rw [← dG, nameB, qK, lW]
theorem ZL {l : List S67} (h : bI l = true) {n m : Nat} {ds : List Bytes} (hc : chain SU n (aN l) ds m) {p : Pl} (hp : p ∈ aN l) (hm : p.2 = m) : ∃ a, aN l = a ++ [p] ∧ p.1.f1.size = 0 := by
 obtain ⟨a, b, hab⟩ := List.append_of_mem hp
 rw [hab] at hc
 obtain ⟨d1, d2, k, c1, c2, c3⟩ := uO SU n a (p :: b) ds m hc
 obtain ⟨c4, e1, e2, rfl, c5, c6⟩ := c2
 have hle := (LC SU _ b e2 m c6).1
 have he1 : e1 = [] := List.length_eq_zero_iff.1 (by omega)
 subst he1
 have hsz : p.1.f1.size = 0 := by
  have := (rH c5).1
  have h2 := congrArg List.length this
  rw [dG] at h2
  simpa [fQ] using h2
 cases b with
 | nil => exact ⟨a, hab, hsz⟩
 | cons q r =>
  exfalso
  obtain ⟨c7, _⟩ := c6
  have hq : q.2 = p.2 := by
   rw [c7, c4]
   rfl
  obtain ⟨g1, g2, g3, g4, g5⟩ := iZ h hab
  have hqm : q ∈ aN (l.drop (bsOf l p.1.f0 + 1)) := by rw [← g5]; simp
  obtain ⟨q1, q2⟩ := lC.1 hqm
  obtain ⟨j, hj⟩ := List.getElem?_of_mem q1
  rw [List.getElem?_drop] at hj
  have hlt := tH h (by omega : bsOf l p.1.f0 < bsOf l p.1.f0 + 1 + j) g1 hj
  rw [QD g3, QD q2, hq] at hlt
  exact qeE _ hlt
theorem WH {L : Lg} {ds : List Bytes} {n m k : Nat} (h : WF L ds n m) (hu : L.fu = -1) (ha : L.fa = -1) (hk : k ≤ 65552) (hl : L.l.length < 64) : (gK L k).2 = 0 ∧ (gK L k).1.fu = -1 ∧ (gK L k).1.fa = -1 := by
 unfold gK
 split
 ·rename_i hf
  have hnx : L.nx.toNat = m := by rw [h.nx]; exact Int.toNat_natCast m
  rw [hnx]
  have hat : kG L.l (nameB m) (bsOf L.l (nameB m)) = false := by
   cases hh : kG L.l (nameB m) (bsOf L.l (nameB m)) with
   | false => rfl
   | true =>
    exfalso
    obtain ⟨x, hx, hxe⟩ := (tJ _ _ _).1 hh
    have hxn : x.f0 = nameB m := pY (by
     rw [ByteArray.toList_eq, ByteArray.toList_eq] at hxe
     exact hxe)
    have hmem : ((x, m) : Pl) ∈ aN L.l := lC.2 ⟨List.mem_of_getElem? hx, by show numOf x.f0 = some m; rw [hxn]; exact yO h.top⟩
    obtain ⟨a, e1, e2⟩ := ZL h.right h.ch hmem rfl
    have hlp : tK L.l = some (x, m) := by
     rw [tK, e1, List.getLast?_append]
     rfl
    unfold isFull at hf
    rw [hlp] at hf
    simp only at hf e2
    have := h.lo
    omega
  have hrf : rfC (nameB m) L.l.length (bsOf L.l (nameB m)) (kG L.l (nameB m) (bsOf L.l (nameB m))) = 0 := by
   unfold rfC
   rw [hat, if_neg, if_neg (by simp), if_neg (by omega)]
   rw [LD, wU]
   intro hh
   rcases hh with hh | hh
   ·have := congrArg List.length hh
    rw [lW] at this
    cases this
   ·omega
  rw [hu, ha, h.dn, jO, oM h.right, if_pos (by simpa using hrf)]
  exact ⟨rfl, rfl, rfl⟩
 ·exact ⟨rfl, hu, ha⟩
theorem LG {L : Lg} {ds : List Bytes} {n m : Nat} {a : List Pl} {p : Pl} {s : ByteArray} (h : WF L ds n m) (hu : L.fu = -1) (ha : L.fa = -1) (hp : aN L.l = a ++ [p]) (hs : p.1.f1.size + s.size ≤ 262144) : (oP L s).2 = 0 ∧ (oP L s).1.fu = -1 ∧ (oP L s).1.fa = -1 := by
 have hp' : aN L.l = a ++ p :: [] := hp
 obtain ⟨g1, g2, g3, _⟩ := iZ h.right hp'
 have e1 : fC L p.1.f0 s = (chg L (L.l.set (bsOf L.l p.1.f0) ⟨p.1.f0, p.1.f1 ++ s, p.1.f2⟩, false, -1, -1, 0), 0) := by
  have hA : jI L.l L.dn L.fu L.fa p.1.f0 s = (L.l.set (bsOf L.l p.1.f0) ⟨p.1.f0, p.1.f1 ++ s, p.1.f2⟩, false, -1, -1, 0) := by
   rw [hu, ha, h.dn, jI, oM h.right, if_pos (by simp [rfW, g2, iM g1]; omega)]
   simp only [Int.toNat_natCast, iM g1]
  rw [fC, hA]
 have hz : (jI L.l L.dn L.fu L.fa p.1.f0 s).2.2.2.2 = 0 := by
  have := congrArg Prod.snd e1
  exact this
 obtain ⟨k1, k2, k3, k4⟩ := BH (L := L) hp' hz
 have hp2 : aN (fC L p.1.f0 s).1.l = a ++ ((⟨p.1.f0, p.1.f1 ++ s, p.1.f2⟩ : S67), p.2) :: [] := k2
 have hr2 : bI (fC L p.1.f0 s).1.l = true := k1
 obtain ⟨j1, j2, j3, _⟩ := iZ hr2 hp2
 have hd2 : (fC L p.1.f0 s).1.dn = false ∧ (fC L p.1.f0 s).1.fu = -1 ∧ (fC L p.1.f0 s).1.fa = -1 := by rw [e1]; exact ⟨rfl, rfl, rfl⟩
 have e2 : (stepS (fC L p.1.f0 s).1 p.1.f0).2 = 0 ∧ (stepS (fC L p.1.f0 s).1 p.1.f0).1.fu = -1 ∧ (stepS (fC L p.1.f0 s).1 p.1.f0).1.fa = -1 := by
  simp only at j1 j2
  rw [stepS, hd2.1, hd2.2.1, hd2.2.2, rW, oM hr2, if_pos (by simp [j2])]
  exact ⟨rfl, rfl, rfl⟩
 unfold oP
 rw [sQ hp, if_pos (by rw [e1]), if_pos e2.1]
 exact ⟨rfl, e2.2.1, e2.2.2⟩
theorem TM {L : Lg} {ds : List Bytes} {n m : Nat} {d : ByteArray} (h : WF L ds n m) (hu : L.fu = -1) (ha : L.fa = -1) (hd : d.size ≤ 65536) (hm : m < most) (hl : L.l.length < 64) :
  ∃ R, bT L d = (R, 0) ∧ R.fu = -1 ∧ R.fa = -1 := by
 have hfs : (dN L.nx d).size = 16 + d.size := by rw [h.nx]; exact yI m d
 obtain ⟨c1, c2, c3⟩ := WH (k := (dN L.nx d).size) h hu ha (by omega) hl
 obtain ⟨L1, hL1⟩ : ∃ L1, gK L (dN L.nx d).size = (L1, 0) := ⟨_, Prod.ext rfl c1⟩
 rw [hL1] at c2 c3
 obtain ⟨w1, w2, w3, a, p, w4, w5⟩ := tZ h hL1
 obtain ⟨p1, p2, p3⟩ := LG (s := dN L.nx d) w1 c2 c3 w4 (by omega)
 refine ⟨(oP L1 (dN L.nx d)).1, ?_, p2, p3⟩
 rw [bT, if_pos h.okL, iW, h.br, if_neg (by simp), if_neg (by omega), if_neg (by rw [h.nx]; unfold most at hm; omega), hL1, if_pos rfl]
 exact Prod.ext rfl p1
def L0s (size : Int) : Lg := ⟨[], false, -1, -1, size, 1, 1, false⟩
theorem vT : bI ([] : List S67) = true := by decide
theorem LH : aN ([] : List S67) = [] := List.filterMap_nil
theorem qci {size : Int} (h0 : 1 ≤ size) (h1 : size ≤ 262144) : WF (L0s size) [] 1 1 :=
 ⟨vT, rfl, rfl, h0, h1, by show dP (aN []) = 1; rw [LH]; rfl, by show chain SU 1 (aN []) [] 1; rw [LH]; exact ⟨rfl, rfl⟩, by decide, rfl, rfl⟩
theorem qcj {size : Int} (h0 : 1 ≤ size) (h1 : size ≤ 262144) : jG [] false (-1) (-1) size = (L0s size, [], 0) := by
 have h := (qci h0 h1).opens
 exact h
theorem qck {size : Int} (h : size < 1 ∨ 262144 < size) : jG [] false (-1) (-1) size = (Lz, [], 2) := by
 rw [jG, if_pos vT, if_pos h]
end Go.Proofs.U
namespace Go.Proofs.U
open Go.RowKit Go.Proofs.aA.aK Go.Proofs.aA.aW Go.Proofs.aA.aZ
attribute [local go_sem] gV gW iU iV fU fV gZ iC
end Go.Proofs.U
namespace Go.Proofs.U
open Go.RowKit Go.Proofs.aA.aK Go.Proofs.aA.aW Go.Proofs.aA.aZ Go.Proofs.Sp Go.Proofs.dZ
theorem qij {w : World} {ad : Addr} {n i : Nat} {l : List S62} {x : S62} (h : Kd.C k62 w (some ad) n l) (hx : l[i]? = some x) :
  w.cell? (ad.add (i * 2)) = some (.int .u64 x.f0) ∧ w.cell? ⟨(ad.add (i * 2)).block, (ad.add (i * 2)).off + 1, none⟩ = some (.string x.f1) := by
 have hi := (List.getElem?_eq_some_iff.1 hx).1
 obtain ⟨ad2, c, e, _, hK, hc0⟩ := Kd.GN h (⟨0, ⟨#[]⟩⟩ : S62) (i : Int) (by omega) (by have := h.1; omega)
 injection e with e
 subst e
 have hg : l.getD i (⟨0, ⟨#[]⟩⟩ : S62) = x := by simp [List.getD, hx]
 simp only [Int.toNat_natCast] at hK hc0
 rw [hg] at hK
 have hc : ∀ j u, c[j]? = some u → w.cell? (ad.add (i * 2 + j)) = some u := hc0
 obtain rfl := qbg hK
 exact ⟨hc 0 _ rfl, by rw [← lI _ _ 1 (by omega)]; exact hc 1 _ rfl⟩
theorem qfw {w : World} {A : Option Addr} {n : Nat} {l : List S62} (h : Kd.C k62 w A n l) (hn : 0 < n) : ∃ ad, A = some ad := by
 obtain ⟨ad2, c, e, _⟩ := Kd.GN h (⟨0, ⟨#[]⟩⟩ : S62) 0 (by omega) (by omega)
 exact ⟨ad2, e⟩
end Go.Proofs.U
namespace Go.Proofs.U
open Go.RowKit Go.Proofs.aA.aK Go.Proofs.aA.aW Go.Proofs.aA.aZ
attribute [local go_sem] gV gW iU iV fU fV gZ iC
mutual
def dK.j0 : Nat → ByteArray → Bool → Option (Int × Bool)
 | 0, _, _ => none
 | k + 1, x0, x13 => if x13 = true then (some (0, false)) else (dK.l0 k x0 0 8)
def dK.l0 : Nat → ByteArray → Int → Int → Option (Int × Bool)
 | 0, _, _, _ => none
 | k + 1, x0, x4, x5 => if x5 > 0 then (if 0 ≤ x5 then (if x5 < (x0.size : Int) then (dK.l0 k x0 (Go.bits .or .u64 (IntKind.u64.wrap (x4 * 256)) (IntKind.u64.wrap (bt x0 x5))) (wrap64 (x5 - 1))) else (none)) else (none)) else (some (x4, true))
end
def dK.f (k : Nat) (a0 : ByteArray) : Option (Int × Bool) := if (a0.size : Int) = 9 then (if 0 < (a0.size : Int) then (dK.j0 k a0 ((bt a0 0) != 65)) else (none)) else (dK.j0 k a0 true)
set_option maxHeartbeats 8000000 in
theorem dK.calls (k : Nat) (a0 : ByteArray) (r1 : Int) (r2 : Bool) (w : World) (h : dK.f k a0 = some (r1, r2)) :
    Calls Tryz.prog 98 #[.string a0] w fun e w' => e = .returned (.tuple #[.int .u64 r1, .bool r2]) ∧ iH w w' := by
  have H : (if (a0.size : Int) = 9 then (if 0 < (a0.size : Int) then (dK.j0 k a0 ((bt a0 0) != 65)) else (none)) else (dK.j0 k a0 true)) = some (r1, r2) := h
  clear h
  have HC2 := aC.mk H
  clear H
  go_enter Tryz.func98, Tryz.ntmps98
  go_upto_region 1 with (fail)
  go_cut [13] (fun v13 wc => ∃ (kq : Nat) (ZM : Bool), v13 = .bool ZM ∧ aC (dK.j0 kq a0 ZM = some (r1, r2)) ∧ aC (kq ≤ k) ∧ iH w wc)
  case first =>
    have H := HC2.out
    clear HC2
    by_cases c3 : (a0.size : Int) = 9
    · rw [if_pos c3] at H
      have KP : ((a0.size : Int) == 9) = true := beq_iff_eq.mpr c3
      have qbX : ((a0.size : Int) != 9) = false := bne_eq_false_iff_eq.mpr c3
      clear c3
      (first | rw [KP] | (simp only [aI, aJ]; rw [KP]) | skip)
      by_cases c4 : 0 < (a0.size : Int)
      · rw [if_pos c4] at H
        have qc9 : decide (0 < (a0.size : Int)) = true := decide_eq_true c4
        have qfx : decide (0 < a0.size) = true := decide_eq_true (by omega)
        clear c4
        have H' := aC.mk H
        clear H
        have p5 : 0 ≤ (0 : Int) := (by omega)
        have q5 : 0 < a0.size := (by have : (0 : Int) < (a0.size : Int) := of_decide_eq_true (by first | (with_reducible assumption) | assumption); omega)
        have hx5 : ∀ h : 0 < a0.size, ((a0[0]'h).toNat : Int) = bt a0 0 := WZ a0 0
        clear p5
        have qi5 : (0 < (a0.size : Int)) = True := eq_true (of_decide_eq_true (by first | (with_reducible assumption) | assumption))
        replace q5 := eq_true q5
        go_wp2
        go_meet
        case rel => exact ⟨_, (((bt a0 0) != 65)), (by first | rfl | (simp; done) | (simp [*]; done)), H', ⟨by first | omega | exact Nat.le_refl _⟩, by repeat (first | exact iH.refl _ | apply iH.step)⟩
      · rw [if_neg c4] at H
        exact absurd H (by simp)
    · rw [if_neg c3] at H
      have KP : ((a0.size : Int) == 9) = false := beq_eq_false_iff_ne.mpr c3
      have qbX : ((a0.size : Int) != 9) = true := bne_iff_ne.mpr c3
      (first | rw [KP] | (simp only [aI, aJ]; rw [KP]) | skip)
      have H' := aC.mk H
      clear H
      go_wp2
      go_meet
      case rel => exact ⟨_, (true), (by first | rfl | (simp; done) | (simp [*]; done)), H', ⟨by first | omega | exact Nat.le_refl _⟩, by repeat (first | exact iH.refl _ | apply iH.step)⟩
  case rest =>
    clear HC2
    try clear p2
    try clear c3
    try clear KP
    try clear qbX
    try clear c4
    try clear qc9
    try clear qfx
    try clear p5
    try clear q5
    try clear hx5
    try clear qi5
    try clear p5
    try clear q5
    obtain ⟨kq, ZM, rfl, HA, HJ1, ⟨mc1, rfl⟩⟩ := hcut
    cases kq with
    | zero => exact absurd HA.out (by simp [dK.j0])
    | succ kj1 =>
      have H := HA.out
      clear HA
      simp only [dK.j0] at H
      by_cases c6 : ZM = true
      · subst c6
        have H1 : (some (0, false)) = some (r1, r2) := by rw [if_pos rfl] at H; exact H
        clear H
        have H := H1
        clear H1
        simp only [Option.some.injEq, Prod.mk.injEq] at H
        obtain ⟨rfl, rfl⟩ := H
        go_wp2
        go_ret2
        exact ⟨by first | rfl | (simp; done) | (simp [*]; done), by repeat (first | exact iH.refl _ | apply iH.step)⟩
      · replace c6 := Bool.eq_false_iff.mpr c6
        subst c6
        have H1 : (dK.l0 kj1 a0 0 8) = some (r1, r2) := by rw [if_neg (show ¬ (false = true) by decide)] at H; exact H
        clear H
        have H := H1
        clear H1
        have H' := aC.mk H
        clear H
        go_wp2
        go_loopg [4, 5] kj1 (fun kq v4 v5 w' => ∃ (I4 : Int) (BI : Int), v4 = .int .u64 I4 ∧ v5 = .int .i64 BI ∧ aC (dK.l0 kq a0 I4 BI = some (r1, r2)) ∧ aC (kq ≤ kj1) ∧ iH w w')
        case atStart => exact ⟨(0), (8), (by first | rfl | (simp; done) | (simp [*]; done)), (by first | rfl | (simp; done) | (simp [*]; done)), H', ⟨Nat.le_refl _⟩, by repeat (first | exact iH.refl _ | apply iH.step)⟩
        case round =>
          clear H'
          try clear c1
          try clear p2
          try clear c3
          try clear KP
          try clear qbX
          try clear c4
          try clear qc9
          try clear qfx
          try clear p5
          try clear q5
          try clear hx5
          try clear qi5
          try clear c6
          try clear p2
          try clear p5
          try clear q5
          obtain ⟨I4, BI, rfl, rfl, HA, HK2, ⟨m2, rfl⟩⟩ := hrel
          cases gk with
          | zero => exact absurd HA.out (by simp [dK.l0])
          | succ k2 =>
            have H := HA.out
            clear HA
            simp only [dK.l0] at H
            by_cases c7 : BI > 0
            · rw [if_pos c7] at H
              have qik : decide (0 < BI) = true := decide_eq_true c7
              clear c7
              by_cases c8 : 0 ≤ BI
              · rw [if_pos c8] at H
                have qi7 : decide (0 ≤ BI) = true := decide_eq_true c8
                clear c8
                by_cases c9 : BI < (a0.size : Int)
                · rw [if_pos c9] at H
                  have qfi : decide (BI < (a0.size : Int)) = true := decide_eq_true c9
                  clear c9
                  have H' := aC.mk H
                  clear H
                  have p10 : 0 ≤ (BI : Int) := of_decide_eq_true (by first | (with_reducible assumption) | assumption)
                  have q10 : BI < (a0.size : Int) := of_decide_eq_true (by first | (with_reducible assumption) | assumption)
                  have qi8 := WZ a0 BI
                  replace p10 := eq_true p10
                  replace q10 := eq_true q10
                  go_wp2
                  go_roundg k2
                  case measure => have := HJ1.out; have := HK2.out; omega
                  case rel => exact ⟨(Go.bits .or .u64 (IntKind.u64.wrap (I4 * 256)) (IntKind.u64.wrap (bt a0 BI))), (wrap64 (BI - 1)), (by first | rfl | (simp; done) | (simp [*]; done)), (by first | rfl | (simp; done) | (simp [*]; done)), H', ⟨by have := HJ1.out; have := HK2.out; omega⟩, by repeat (first | exact iH.refl _ | apply iH.step)⟩
                · rw [if_neg c9] at H
                  exact absurd H (by simp)
              · rw [if_neg c8] at H
                exact absurd H (by simp)
            · rw [if_neg c7] at H
              have qik : decide (0 < BI) = false := decide_eq_false c7
              clear c7
              simp only [Option.some.injEq, Prod.mk.injEq] at H
              obtain ⟨rfl, rfl⟩ := H
              go_wp2
              go_ret2
              exact ⟨by first | rfl | (simp; done) | (simp [*]; done), by repeat (first | exact iH.refl _ | apply iH.step)⟩
end Go.Proofs.U
namespace Go.Proofs.U
open Go.Proofs.UE (oG sO)
open Go.Proofs
open Go.RowKit Go.Proofs.aA.aK Go.Proofs.aA.aW Go.Proofs.aA.aZ Go.Proofs.Sp Go.Proofs.dZ
open Go.Maps
theorem qaG {n b : Int} (h0 : 0 ≤ n) (h1 : n < 72057594037927936) (b0 : 0 ≤ b) (b1 : b ≤ 255) : bits .or .u64 (n * 256) b = n * 256 + b := by
 have e : (n * 256) % 2 ^ 8 = 0 := by
  rw [show (2 : Int) ^ 8 = 256 from rfl]
  omega
 have h2 : (2 : Int) ^ 64 = 18446744073709551616 := rfl
 refine bits_join .u64 64 (by decide) (fun m hm0 hm1 => ?_) 8 (n * 256) b (by omega) e ?_ b0 ?_ ?_
 ·rw [h2] at hm1
  rw [IntKind.wrap_u64]
  omega
 ·rw [h2]; omega
 ·rw [show (2 : Int) ^ 8 = 256 from rfl]; omega
 ·rw [h2]; omega
def nvF (s : ByteArray) : Nat → Int
 | 0 => 0
 | k + 1 => nvF s k * 256 + bt s ((8 - k : Nat) : Int)
theorem FV (s : ByteArray) : ∀ k, k ≤ 8 → 0 ≤ nvF s k ∧ nvF s k < ((256 ^ k : Nat) : Int)
 | 0, _ => ⟨Int.le_refl _, by show (0 : Int) < ((256 ^ 0 : Nat) : Int); decide⟩
 | k + 1, h => by
  obtain ⟨h1, h2⟩ := FV s k (by omega)
  obtain ⟨h3, h4⟩ := vC s ((8 - k : Nat) : Int)
  rw [nvF, Nat.pow_succ]
  exact ⟨by omega, by omega⟩
def qI (s : ByteArray) : Option Int := if s.size = 9 ∧ bt s 0 = 65 then some (nvF s 8) else none
theorem TN {s : ByteArray} {n : Int} (h : qI s = some n) : 0 ≤ n ∧ n < 18446744073709551616 := by
 unfold qI at h
 split at h
 ·injection h with h
  obtain ⟨h1, h2⟩ := FV s 8 (by omega)
  rw [h] at h1 h2
  exact ⟨h1, h2⟩
 ·cases h
theorem NJ (s : ByteArray) (hs : s.size = 9) : ∀ (f k : Nat), k ≤ 8 → 8 - k < f → dK.l0 f s (nvF s k) ((8 - k : Nat) : Int) = some (nvF s 8, true)
 | 0, k, h, hf => by omega
 | f + 1, k, h, hf => by
  rw [dK.l0]
  by_cases hk : k < 8
  ·obtain ⟨h1, h2⟩ := FV s k h
   obtain ⟨h3, h4⟩ := vC s ((8 - k : Nat) : Int)
   have h5 : 256 ^ k ≤ 72057594037927936 := Nat.le_trans (Nat.pow_le_pow_right (by decide) (by omega : k ≤ 7)) (by decide)
   have e1 : IntKind.u64.wrap (nvF s k * 256) = nvF s k * 256 := by rw [IntKind.wrap_u64]; omega
   have e2 : IntKind.u64.wrap (bt s ((8 - k : Nat) : Int)) = bt s ((8 - k : Nat) : Int) := by rw [IntKind.wrap_u64]; omega
   have e3 : wrap64 (((8 - k : Nat) : Int) - 1) = ((8 - (k + 1) : Nat) : Int) := by unfold wrap64; omega
   rw [if_pos (by omega), if_pos (by omega), if_pos (by omega), e1, e2, e3, qaG h1 (by omega) h3 h4]
   exact NJ s hs f (k + 1) (by omega) (by omega)
  ·obtain rfl : k = 8 := by omega
   rw [if_neg (by decide)]
theorem number_eq (s : ByteArray) : dK.f 12 s = some (match qI s with | some n => (n, true) | none => (0, false)) := by
 rw [dK.f]
 by_cases h9 : s.size = 9
 ·rw [if_pos (by omega), if_pos (by omega), dK.j0]
  by_cases h0 : bt s 0 = 65
  ·rw [if_neg (by rw [h0]; decide), qI, if_pos ⟨h9, h0⟩]
   exact NJ s h9 11 0 (by omega) (by omega)
  ·rw [if_pos (by rw [bne_iff_ne]; exact h0), qI, if_neg (fun h => h0 h.2)]
 ·rw [if_neg (by omega), dK.j0, if_pos rfl, qI, if_neg (fun h => h9 h.1)]
def qcl (s : ByteArray) : Prop := s ≠ ⟨#[]⟩ ∧ bt s 0 = 80
def kS (rs : List S62) (n : Int) : Nat := (rs.filter fun r => decide (qI r.f1 = some n)).length
theorem qcm (rs : List S62) (n : Int) : kS rs n ≤ rs.length := List.length_filter_le _ _
theorem wV (r : S62) (rs : List S62) (n : Int) : kS (r :: rs) n = if qI r.f1 = some n then kS rs n + 1 else kS rs n := by
 unfold kS
 rw [List.filter_cons]
 split
 ·rename_i h
  rw [if_pos (by simpa using h)]
  rfl
 ·rename_i h
  rw [if_neg (by simpa using h)]
open Classical in
noncomputable def dH : List S62 → List S41
 | [] => []
 | r :: rest => if qI r.f1 = none ∧ qcl r.f1 ∧ kS rest r.f0 = 0 then ⟨r.f0, r.f1.extract 1 r.f1.size, false⟩ :: dH rest else dH rest
theorem wW : ∀ rs, (dH rs).length ≤ rs.length
 | [] => Nat.le_refl _
 | r :: rest => by
  have := wW rest
  rw [dH]
  split
  ·simp only [List.length_cons]; omega
  ·simp only [List.length_cons]; omega
def FW (g n : Nat) (D : DataW Unit) : Res where
 holds W := W.ownsMap Tryz.prog 28 (plainElem Tryz.prog 3) g n D
 foot k := k = g
 lives h hr := by
  have hlt := hr.lt
  obtain ⟨es, clock, hb, F, hs, hD⟩ := hr
  exact ⟨es, clock, (h g rfl hlt).trans hb, F, hs, hD⟩
 lt h e := by rw [e]; exact h.lt
theorem wf64 {n : Int} (h0 : 0 ≤ n) (h1 : n < 18446744073709551616) : (Lit.int .u64 n).wf = true := by
 have : IntKind.u64.min ≤ n ∧ n ≤ IntKind.u64.max := ⟨h0, by show n ≤ 18446744073709551615; omega⟩
 simpa [Lit.wf] using this
theorem qdW {n : Int} (h0 : 0 ≤ n) (h1 : n < 18446744073709551616) : keyOf Tryz.prog 28 (.int .u64 n) = some (.int .u64 n) := keyOf_int_mk Tryz.underlying28 (wf64 h0 h1)
def NK (D : DataW Unit) (c : Int → Nat) : Prop := ∀ n, 0 ≤ n → n < 18446744073709551616 → D.atKey (.int .u64 n) (.lit (.int .i64 0)) = .lit (.int .i64 (c n : Int))
theorem qcn {W : World} {g m : Nat} {D : DataW Unit} {c : Int → Nat} (h : W.ownsMap Tryz.prog 28 (plainElem Tryz.prog 3) g m D) (hD : NK D c) {n : Int} (h0 : 0 ≤ n) (h1 : n < 18446744073709551616) :
  (Instr.lookup 150 (.map (some g)) (.int .u64 n) false).run Tryz.prog W = .ok (.int .i64 (c n : Int)) W := by
 obtain ⟨v, hrun, hat, _⟩ := h.lookup_int (t := 150) (e := 3) (q := .i64) (int_keyed Tryz.underlying28) Tryz.underlying150 Tryz.underlying3 (by kernel_rfl) (qdW h0 h1)
 rw [hD n h0 h1] at hat
 injection hat with hat
 injection hat with _ hat
 rw [hrun, hat]
theorem Sep.qeG {b W W1 : World} {rs : List Res} {g n : Nat} {D D' : DataW Unit} (H : Sep b W (FW g n D :: rs)) (h1 : W1.ownsMap Tryz.prog 28 (plainElem Tryz.prog 3) g (n + 1) D') (hg : W.grownBy W1 (some g)) : Sep b W1 (FW g (n + 1) D' :: rs) :=
 H.qcA (r' := FW g (n + 1) D') ((Upd.sU hg).mono fun k hk => by injection hk with hk; exact hk.symm) h1 (fun k hk => .inl hk)
theorem qdy {P : Program} {ops : Array Oper} {rest : List Oper} {o : Oper} {a : Act} {Q : Exit → Act → World → Prop} {b W : World} {rs : List Res} (hgd : o.guard = none) (H : aC (Sep b W rs))
  (hrun : (execOp a.eval o).run P W = .ok (.value (.map (some W.heap.size))) (W.alloc (.map #[] 0)))
  (h : ∀ g W', aC (Sep b W' (FW g 0 (.map []) :: rs)) → wpList P ops Q rest (a.put o.dst (.map (some g))) W') : wpList P ops Q (o :: rest) a W :=
 Kd.vG hgd hrun (h _ _ ⟨H.out.push (aU (Below.refl _ _) _) (FW W.heap.size 0 (.map [])) (World.ownsMap_made W _ _ _) (fun g hg => by rw [show g = W.heap.size from hg]; exact Nat.le_refl _)⟩)
theorem qaH : NK (.map []) (fun _ => 0) := fun n _ _ => rfl
theorem qaI (k : IntKind) (n : Int) : WideAt.IsKeyLit (.int k n) := by first | exact trivial | (unfold WideAt.IsKeyLit; trivial) | simp [WideAt.IsKeyLit]
theorem qaJ {D : DataW Unit} {c : Int → Nat} (hD : NK D c) (hm : IsMap D) {n : Int} (h0 : 0 ≤ n) (h1 : n < 18446744073709551616) : NK (D.put (.int .u64 n) (.lit (.int .i64 ((c n : Int) + 1)))) (fun m => if m = n then c n + 1 else c m) := by
 intro m g0 g1
 by_cases h : m = n
 ·subst h
  rw [Maps.atKey_put_same hm (qaI _ _)]
  simp
 ·rw [Maps.atKey_put_other (by intro e; injection e with _ e; exact h e), hD m g0 g1]
  simp [h]
theorem D6 : ∀ (l : List S41) (i : Nat) (x : S41) (u : Int), l[i]? = some x → (UE.cellsOf l).set (i * 3) (.int .u64 u) = UE.cellsOf (l.set i ⟨u, x.f1, x.f2⟩)
 | [], i, x, u, h => by simp at h
 | y :: l, 0, x, u, h => by
  obtain rfl : y = x := by simpa using h
  simp [UE.dB]
 | y :: l, i + 1, x, u, h => by
  show _ = UE.cellsOf (y :: l.set i _)
  rw [UE.dB, UE.dB, ← D6 l i x u (by simpa using h), show (i + 1) * 3 = i * 3 + 1 + 1 + 1 by omega]
  simp only [zS]
theorem LJ {b W : World} {pre post : List Res} {g c n i : Nat} {l : List S41} {x : S41} (y : S41) (hn : n = l.length) (hx : l[i]? = some x) (H : Sep b W (pre ++ row k41 41 (.slice (some ⟨g, 0, none⟩) n c) l :: post)) :
  Sep b (((W.setCell ⟨g, i * 3, none⟩ (.int .u64 y.f0)).setCell ⟨g, i * 3 + 1, none⟩ (.string y.f1)).setCell ⟨g, i * 3 + 2, none⟩ (.bool y.f2)) (pre ++ row k41 41 (.slice (some ⟨g, 0, none⟩) n c) (l.set i y) :: post) := by
 have hi := (List.getElem?_eq_some_iff.1 hx).1
 have h1 := oG (l' := l.set i ⟨y.f0, x.f1, x.f2⟩) (j := i * 3) (u := .int .u64 y.f0) hn H (by simp) (D6 l i x y.f0 hx) (by omega)
 have h2 := oG (l' := (l.set i ⟨y.f0, x.f1, x.f2⟩).set i ⟨y.f0, y.f1, x.f2⟩) (j := i * 3 + 1) (u := .string y.f1) (by rw [hn]; simp) h1 (by simp) (UE.jZ _ i ⟨y.f0, x.f1, x.f2⟩ y.f1 (by rw [List.getElem?_set_self hi])) (by simp; omega)
 have h3 := oG (l' := ((l.set i ⟨y.f0, x.f1, x.f2⟩).set i ⟨y.f0, y.f1, x.f2⟩).set i ⟨y.f0, y.f1, y.f2⟩) (j := i * 3 + 2) (u := .bool y.f2) (by rw [hn]; simp) h2 (by simp) (UE.kC _ i ⟨y.f0, y.f1, x.f2⟩ y.f2 (by rw [List.getElem?_set_self (by rw [List.length_set]; exact hi)])) (by simp; omega)
 rw [List.set_set, List.set_set] at h3
 exact h3
structure qaK (l : List S41) (i : Nat) (cur : List S41) : Prop where
 len : cur.length = l.length
 low : 2 * i ≤ l.length + 1
 old : ∀ k, k < i → cur[k]? = l[l.length - 1 - k]? ∧ cur[l.length - 1 - k]? = l[k]?
 new : ∀ k, i ≤ k → k + i < l.length → cur[k]? = l[k]?
theorem qaK.step {l cur : List S41} {i : Nat} {x y : S41} (h : qaK l i cur) (hi : 2 * i + 1 < l.length) (hx : cur[i]? = some x) (hy : cur[l.length - 1 - i]? = some y) : qaK l (i + 1) ((cur.set i y).set (l.length - 1 - i) x) := by
 have hxl := h.new i (Nat.le_refl _) (by omega)
 have hyl := h.new (l.length - 1 - i) (by omega) (by omega)
 have ha : i < cur.length := by rw [h.len]; omega
 have hb : l.length - 1 - i < cur.length := by rw [h.len]; omega
 refine ⟨by simp [h.len], by omega, fun k hk => ?_, fun k hk hk2 => ?_⟩
 ·by_cases hki : k = i
  ·subst hki
   constructor
   ·rw [List.getElem?_set_ne (by omega), List.getElem?_set_self ha, ← hyl, hy]
   ·rw [List.getElem?_set_self (by rw [List.length_set]; exact hb), ← hxl, hx]
  ·obtain ⟨g1, g2⟩ := h.old k (by omega)
   rw [List.getElem?_set_ne (by omega), List.getElem?_set_ne (by omega), List.getElem?_set_ne (by omega), List.getElem?_set_ne (by omega)]
   exact ⟨g1, g2⟩
 ·rw [List.getElem?_set_ne (by omega), List.getElem?_set_ne (by omega)]
  exact h.new k (by omega) (by omega)
theorem qaK.done {l cur : List S41} {i : Nat} (h : qaK l i cur) (hi : ¬ 2 * i + 1 < l.length) : cur = l.reverse := by
  apply List.ext_getElem?
  intro k
  by_cases hk : k < l.length
  · rw [List.getElem?_reverse hk]
    by_cases h3 : k < i
    · exact (h.old k h3).1
    · by_cases h4 : l.length - 1 - k < i
      · have := (h.old (l.length - 1 - k) h4).2
        rw [show l.length - 1 - (l.length - 1 - k) = k by omega] at this
        exact this
      · have := h.new k (by omega) (by omega)
        have hl := h.low
        rw [this]
        congr 1
        omega
  · rw [List.getElem?_eq_none (by rw [h.len]; omega), List.getElem?_eq_none (by rw [List.length_reverse]; omega)]
set_option maxHeartbeats 8000000 in
theorem TP {b w : World} {rs : List Res} (B : Option Addr) (d : Nat) (l : List S41) (hl : l.length ≤ 1000000000) (H0 : aC (Sep b w (uG B d l :: rs))) :
  Calls Tryz.prog 99 #[.slice B l.length d] w fun e w' => e = .returned (.tuple #[]) ∧ aC (Sep b w' (row k41 41 (.slice B l.length d) l.reverse :: rs)) := by
 have HL := aC.mk hl
 have H := H0
 clear H0 hl
 have hw1 : wrap64 ((l.length : Int) - 1) = (l.length : Int) - 1 - ((0 : Nat) : Int) := by
  have := HL.out
  unfold wrap64
  omega
 go_enter Tryz.func99, Tryz.ntmps99
 go_wp2
 try rw [hw1]
 go_loopw [2, 3] (fun v2 v3 wr => ∃ (i : Nat) (cur : List S41), v2 = .int .i64 (i : Int) ∧ v3 = .int .i64 ((l.length : Int) - 1 - (i : Int)) ∧ aC (qaK l i cur) ∧ aC (Sep b wr (row k41 41 (.slice B l.length d) cur :: rs))) (fun v2 _ _ => (l.length + 1 - 2 * (intOf v2).toNat))
 case atStart => exact ⟨0, l, rfl, rfl, ⟨⟨rfl, by omega, fun k hk => by omega, fun k _ _ => rfl⟩⟩, H⟩
 case round =>
  clear H
  obtain ⟨i, cur, rfl, rfl, HI, H⟩ := hrel
  by_cases hi : 2 * i + 1 < l.length
  ·obtain ⟨j, hj⟩ : ∃ j, j = l.length - 1 - i := ⟨_, rfl⟩
   have hji : (l.length : Int) - 1 - (i : Int) = (j : Int) := by omega
   rw [hji]
   have hcl := HI.out.len
   obtain ⟨x, hx⟩ : ∃ x, cur[i]? = some x := ⟨_, List.getElem?_eq_getElem (by omega)⟩
   obtain ⟨y, hy⟩ : ∃ y, cur[j]? = some y := ⟨_, List.getElem?_eq_getElem (by omega)⟩
   have HX := aC.mk hx
   have HY := aC.mk hy
   have HJ := aC.mk hj
   have HCL := aC.mk hcl
   have HII := aC.mk hi
   obtain ⟨gp, hgp⟩ := uM (B := B) (d := d) (es := cur) (by have h := H.out; rwa [← HCL.out] at h) aQ (by omega)
   subst hgp
   have Hc : Sep b wr (uG (some ⟨gp, 0, none⟩) d cur :: rs) := by have h := H.out; rwa [← HCL.out] at h
   obtain ⟨k0, k1, k2, kf⟩ := tY (gp := gp) (d := d) Hc aQ hx
   obtain ⟨m0, m1, m2, -⟩ := tY (gp := gp) (d := d) Hc aQ hy
   have hij : (i : Int) < (j : Int) := by omega
   have hi0 : (0 : Int) ≤ (i : Int) := by omega
   have hi1 : (i : Int) < (l.length : Int) := by omega
   have hj0 : (0 : Int) ≤ (j : Int) := by omega
   have hj1 : (j : Int) < (l.length : Int) := by omega
   have hw2 : wrap64 ((i : Int) + 1) = ((i + 1 : Nat) : Int) := by
    have := HL.out
    unfold wrap64
    omega
   have hw3 : wrap64 ((j : Int) - 1) = (l.length : Int) - 1 - ((i + 1 : Nat) : Int) := by
    have := HL.out
    unfold wrap64
    omega
   have n00 : ¬ i * 3 = j * 3 := by omega
   have o00 : ¬ j * 3 = i * 3 := by omega
   have n01 : ¬ i * 3 = j * 3 + 1 := by omega
   have o01 : ¬ j * 3 + 1 = i * 3 := by omega
   have n02 : ¬ i * 3 = j * 3 + 2 := by omega
   have o02 : ¬ j * 3 + 2 = i * 3 := by omega
   have n10 : ¬ i * 3 + 1 = j * 3 := by omega
   have o10 : ¬ j * 3 = i * 3 + 1 := by omega
   have n11 : ¬ i * 3 + 1 = j * 3 + 1 := by omega
   have o11 : ¬ j * 3 + 1 = i * 3 + 1 := by omega
   have n12 : ¬ i * 3 + 1 = j * 3 + 2 := by omega
   have o12 : ¬ j * 3 + 2 = i * 3 + 1 := by omega
   have n20 : ¬ i * 3 + 2 = j * 3 := by omega
   have o20 : ¬ j * 3 = i * 3 + 2 := by omega
   have n21 : ¬ i * 3 + 2 = j * 3 + 1 := by omega
   have o21 : ¬ j * 3 + 1 = i * 3 + 2 := by omega
   have n22 : ¬ i * 3 + 2 = j * 3 + 2 := by omega
   have o22 : ¬ j * 3 + 2 = i * 3 + 2 := by omega
   clear Hc hcl hx hy hj hi hji
   go_upto_region 3 with fail
   go_region
   clear k0 k1 k2 kf m0 m1 m2 n00 o00 n01 o01 n02 o02 n10 o10 n11 o11 n12 o12 n20 o20 n21 o21 n22 o22
   refine uI (rs := row k41 41 (.slice (some ⟨gp, 0, none⟩) l.length d) ((cur.set i y).set j x) :: rs) (Sep.drew (LJ (pre := []) x (by rw [List.length_set]; exact HCL.out.symm) (x := y) (by rw [List.getElem?_set_ne (by have h1 := HJ.out; have h2 := HII.out; omega)]; exact HY.out) (LJ (pre := []) y HCL.out.symm HX.out H.out))) ?_
   intro wn n_
   clear H
   go_wp2_with fail
   try rw [hw2]
   try rw [hw3]
   refine ⟨⟨i + 1, (cur.set i y).set j x, rfl, rfl, ⟨by rw [HJ.out]; exact HI.out.step HII.out HX.out (by rw [← HJ.out]; exact HY.out)⟩, n_⟩, ?_⟩
   have := HII.out
   simp [intOf]
   omega
  ·have hin : ¬ (i : Int) < (l.length : Int) - 1 - (i : Int) := by omega
   have hin2 : ¬ ((i : Int) + ((i : Int) + 1)) < (l.length : Int) := by omega
   go_wp2_with fail
   go_end0
   refine ⟨rfl, ?_⟩
   rw [← HI.out.done hi]
   exact H
theorem qil {n : Int} (h0 : -9223372036854775808 ≤ n) (h1 : n < 9223372036854775808) : (Lit.int .i64 n).wf = true := by
 have : IntKind.i64.min ≤ n ∧ n ≤ IntKind.i64.max := ⟨h0, by show n ≤ 9223372036854775807; omega⟩
 simpa [Lit.wf] using this
set_option maxHeartbeats 8000000 in
theorem IE (A : Option Addr) (c : Nat) (l : List S62) (w : World) (hr : Kd.C k62 w A l.length l) (hl : l.length ≤ 1048576) (hf : ∀ x ∈ l, 0 ≤ x.f0 ∧ x.f0 < 18446744073709551616) :
  Calls Tryz.prog 51 #[.slice A l.length c] w fun e w' => ∃ A' c', e = .returned (.slice A' (dH l).length c') ∧ aC (Sep w w' [uG A' c' (dH l)]) := by
 have HRp := aC.mk hr
 have HL := aC.mk hl
 have HF := aC.mk hf
 clear hr hl hf
 have H := aC.mk (Sep.start w)
 go_enter Tryz.func51, Tryz.ntmps51
 have hw1 : wrap64 ((l.length : Int) - 1) = (l.length : Int) - 1 := by
  have := HL.out
  unfold wrap64
  omega
 go_wp2_with (first
 |((with_reducible refine aV (N := 9) rfl ?_);
   refine qdy rfl H ?hr ?_;
   (case hr => first | (go_simp; done) | (go_simp; rfl) | rfl);
   intro gm wd1 n_;
   simp only [Act.put, zA, zZ, zS];
   clear H;
   have H := n_;
   clear n_)
 |fail)
 try rw [hw1]
 go_loopw [4, 5, 6, 7, 8] (fun v4 v5 v6 v7 v8 wr => ∃ (i : Nat) (o : List S41) (Ao : Option Addr) (co m : Nat) (D : DataW Unit), v4 = .slice Ao o.length co ∧ v5 = .int .i64 ((i : Int) - 1) ∧ i ≤ l.length ∧ m ≤ l.length - i ∧ aC (o = (dH (l.drop i)).reverse) ∧ aC (NK D (kS (l.drop i))) ∧ aC (Sep w wr [row k41 41 (.slice Ao o.length co) o, FW gm m D])) (fun _ v5 _ _ _ _ => (intOf v5 + 1).toNat)
 case atStart =>
  exact ⟨l.length, [], none, 0, 0, .map [], rfl, rfl, Nat.le_refl _, Nat.zero_le _, ⟨by rw [List.drop_length]; rfl⟩, ⟨by rw [List.drop_length]; exact qaH⟩, ⟨Sep.eX H.out⟩⟩
 case round =>
  clear H
  obtain ⟨i, o, Ao, co, m, D, rfl, rfl, hi, hm, HO, HD, H⟩ := hrel
  by_cases hi0 : i = 0
  ·
   subst hi0
   have hneg : ¬ (0 : Int) ≤ ((0 : Nat) : Int) - 1 := by omega
   have HOL : aC (o.length ≤ 1000000000) := ⟨by
    rw [HO.out, List.length_reverse]
    have h1 := wW (l.drop 0)
    have h2 := HL.out
    rw [List.drop_zero] at h1 ⊢
    omega⟩
   go_wp2_with fail
   refine (TP Ao co o HOL.out H).mono ?_
   rintro e wd2 ⟨rfl, H4⟩
   go_wp2_with fail
   go_ret
   have e1 : o.reverse = dH l := by rw [HO.out, List.reverse_reverse, List.drop_zero]
   have e2 : o.length = (dH l).length := by rw [← e1, List.length_reverse]
   rw [e1, e2] at H4
   rw [e2]
   exact ⟨Ao, co, rfl, ⟨H4.out.drop1⟩⟩
  ·
   obtain ⟨j, hj⟩ : ∃ j, i = j + 1 := ⟨i - 1, by omega⟩
   subst hj
   clear hi0
   have hjl : j < l.length := by omega
   obtain ⟨x, hx⟩ : ∃ x, l[j]? = some x := ⟨_, List.getElem?_eq_getElem hjl⟩
   have hd : l.drop j = x :: l.drop (j + 1) := by
    rw [List.drop_eq_getElem_cons hjl]
    congr 1
    rw [List.getElem?_eq_getElem hjl] at hx
    exact Option.some.inj hx
   have HDJ := aC.mk hd
   have hxm := HF.out x (List.mem_of_getElem? hx)
   have HX0 := aC.mk hxm.1
   have HX1 := aC.mk hxm.2
   obtain ⟨ad, e1⟩ := qfw (H.out.came HRp.out) (by omega)
   subst e1
   obtain ⟨q0, q1⟩ := qij (H.out.came HRp.out) hx
   have hji : ((j + 1 : Nat) : Int) - 1 = (j : Int) := by omega
   have hj0 : (0 : Int) ≤ (j : Int) := by omega
   have hj1 : (j : Int) < (l.length : Int) := by omega
   have hw3 : wrap64 ((j : Int) - 1) = ((j : Nat) : Int) - 1 := by
    have := HL.out
    unfold wrap64
    omega
   clear hd hx hxm
   rw [hji]
   go_wp2_with (first
 |((with_reducible refine aV (N := 6) rfl ?_);
   refine bP rfl H (cs := [.int .u64 0, .string ⟨#[]⟩]) (t := 62) ?hr ?_;
   (case hr => first | (go_simp; done) | (go_simp; rfl));
   intro gr wd3 n_;
   simp only [Act.put, zA, zZ, zS];
   clear H;
   have H := n_;
   clear n_;
   have c_r := H.out.cell (g := gr) aQ;
   have z_r := H.out.frozen (g := gr) aQ)
 |((with_reducible refine aX (t := 62) (p := 6) rfl ?_);
   refine bM (rs1 := [box gr [.int .u64 x.f0, .string x.f1] 62, row k41 41 (.slice Ao (o).length co) o, FW gm m D]) rfl (t := 62) (p := 6) rfl rfl ?hr (H1 := (Sep.set0 (Sep.set0 H.out 0 (.int .u64 x.f0) rfl) 1 (.string x.f1) rfl)) ?_;
   (case hr => first | (go_simp; done) | (go_simp; rfl));
   intro wd4 n_;
   clear H c_r z_r;
   have H := n_;
   clear n_;
   have c_r := H.out.cell (g := gr) aQ;
   have z_r := H.out.frozen (g := gr) aQ;
   clear q0 q1)
 |fail)
   obtain ⟨v1, v2, hv⟩ : ∃ v1 v2, dK.f 12 x.f1 = some (v1, v2) := ⟨_, _, number_eq x.f1⟩
   have HV : aC ((match qI x.f1 with | some n => (n, true) | none => (0, false)) = (v1, v2)) := ⟨Option.some.inj ((number_eq x.f1).symm.trans hv)⟩
   refine (dK.calls 12 x.f1 v1 v2 _ hv).mono ?_
   rintro e wd5 ⟨rfl, hb_⟩
   clear hv
   have n_ : aC (Sep w wd5 [box gr [.int .u64 x.f0, .string x.f1] 62, row k41 41 (.slice Ao (o).length co) o, FW gm m D]) := ⟨H.out.step (iH.below hb_)⟩
   clear H c_r z_r
   have H := n_
   clear n_
   have c_r := H.out.cell (g := gr) aQ
   clear hb_
   cases hak : qI x.f1 with
   | some n =>
    have hv := HV.out
    rw [hak] at hv
    obtain ⟨rfl, rfl⟩ := Prod.mk.inj hv
    obtain ⟨hn0, hn1⟩ := TN hak
    have HAK := aC.mk hak
    have HN0 := aC.mk hn0
    have HN1 := aC.mk hn1
    have hlk := qcn (H.out.all (FW gm m D) (by simp)) HD.out hn0 hn1
    obtain ⟨cn, hcn⟩ : ∃ cn, cn = kS (l.drop (j + 1)) n := ⟨_, rfl⟩
    rw [← hcn] at hlk
    have HCN := aC.mk hcn
    have hcl : cn ≤ 1048576 := by
     have h1 := qcm (l.drop (j + 1)) n
     have h2 := HL.out
     rw [List.length_drop] at h1
     omega
    have hw4 : wrap64 ((cn : Int) + 1) = (cn : Int) + 1 := by unfold wrap64; omega
    have HML : aC (m < maxLen) := ⟨by have := HL.out; unfold maxLen; omega⟩
    have HMH : aC (∀ W, Sep w W [box gr [.int .u64 x.f0, .string x.f1] 62, row k41 41 (.slice Ao (o).length co) o, FW gm m D] → W.ownsMap Tryz.prog 28 (plainElem Tryz.prog 3) gm m D) := ⟨fun W h => h.all (FW gm m D) (by simp)⟩
    have HIM : aC (IsMap D) := ⟨World.ownsMap.isMap (HMH.out _ H.out)⟩
    have HCL := aC.mk hcl
    clear hak hn0 hn1 hcn hv hcl
    go_wp2_with (first
 |(at_mapUpdate;
   refine wpList_mapUpdate_own _ rfl _ _ _ 150 rfl 28 3 (int_keyed Tryz.underlying28) Tryz.underlying150 (plainElem Tryz.prog 3) gm m D rfl (HMH.out _ H.out) HML.out _ (.int .i64 ((cn : Int) + 1)) (.int .u64 n) rfl (by first | exact congrArg (Value.int .i64) hw4 | rfl) (qdW HN0.out HN1.out) (.lit (.int .i64 ((cn : Int) + 1))) [] (plainElem_int Tryz.underlying3 (qil (by omega) (by have := HCL.out; omega))) ?_;
   intro wd6 hown1 hgrow1;
   simp only [Act.put, zA, zZ, zS])
 |fail)
    have n_ : aC (Sep w wd6 [FW gm (m + 1) (D.put (.int .u64 n) (.lit (.int .i64 ((cn : Int) + 1)))), box gr [.int .u64 x.f0, .string x.f1] 62, row k41 41 (.slice Ao (o).length co) o]) := ⟨Sep.qeG (Sep.gY H.out) hown1 hgrow1⟩
    clear H c_r
    have H := n_
    clear n_
    have c_r := H.out.cell (g := gr) mem1
    try rw [hw3]
    refine ⟨⟨j, o, Ao, co, m + 1, _, rfl, rfl, by omega, by omega, ⟨?_⟩, ⟨?_⟩, ⟨(Sep.jK (Sep.drop1 H.out))⟩⟩, by simp [intOf] <;> omega⟩
    ·rw [HO.out, HDJ.out, dH, if_neg (fun h => by rw [HAK.out] at h; cases h.1)]
    ·have h := qaJ HD.out HIM.out HN0.out HN1.out
     rw [← HCN.out] at h
     rw [HDJ.out]
     intro k g0 g1
     rw [h k g0 g1, wV, HAK.out]
     have e : (if k = n then cn + 1 else kS (l.drop (j + 1)) k) = (if some n = some k then kS (l.drop (j + 1)) k + 1 else kS (l.drop (j + 1)) k) := by
      by_cases hk : k = n
      ·subst hk
       rw [if_pos rfl, if_pos rfl, HCN.out]
      ·rw [if_neg hk, if_neg (fun e => hk (Option.some.inj e).symm)]
     exact congrArg (fun t : Nat => (DataW.lit (.int .i64 (t : Int)) : DataW Unit)) e
   | none =>
    have hv := HV.out
    rw [hak] at hv
    obtain ⟨rfl, rfl⟩ := Prod.mk.inj hv
    have HAK := aC.mk hak
    have hgd : ∀ k : Int, kS (l.drop j) k = kS (l.drop (j + 1)) k := fun k => by rw [HDJ.out, wV, HAK.out, if_neg (by simp)]
    have HGD : aC (NK D (kS (l.drop j))) := ⟨fun k g0 g1 => by rw [hgd k]; exact HD.out k g0 g1⟩
    have hlk := qcn (H.out.all (FW gm m D) (by simp)) HD.out HX0.out HX1.out
    obtain ⟨cn, hcn⟩ : ∃ cn, cn = kS (l.drop (j + 1)) x.f0 := ⟨_, rfl⟩
    rw [← hcn] at hlk
    have HCN := aC.mk hcn
    clear hak hv hgd hcn
    by_cases hem : x.f1 = ⟨#[]⟩
    ·
     have HEM := aC.mk hem
     have hb1 : x.f1.toList = [] := by
      rw [hem]
      first | done | rw [ByteArray.toList_eq]
     clear hem
     go_wp2_with fail
     try rw [hw3]
     refine ⟨⟨j, o, Ao, co, m, D, rfl, rfl, by omega, by omega, ⟨?_⟩, HGD, ⟨(Sep.dJ H.out)⟩⟩, by simp [intOf] <;> omega⟩
     rw [HO.out, HDJ.out, dH, if_neg (fun h => h.2.1.1 HEM.out)]
    ·
     have HEM := aC.mk hem
     have hsz : 0 < x.f1.size := by
      rcases Nat.eq_zero_or_pos x.f1.size with h | h
      ·exact absurd (ByteArray.size_eq_zero_iff.1 h) hem
      ·exact h
     have hszI : (0 : Int) < (x.f1.size : Int) := by omega
     have qi9 : (1 : Int) ≤ (x.f1.size : Int) := by omega
     have hb1 : ¬ x.f1.toList = [] := fun h => hem (pY (by rw [ByteArray.toList_eq] at h; exact h))
     have hbe : x.f1.toList.isEmpty = false := by
      cases e : x.f1.toList with
      | nil => exact absurd e hb1
      | cons _ _ => rfl
     have hba : ∀ h : 0 < x.f1.size, ((x.f1[0]'h).toNat : Int) = bt x.f1 0 := fun h => WZ x.f1 0 h
     by_cases h80 : bt x.f1 0 = 80
     ·
      have H80 := aC.mk h80
      have hb3 : ∀ h : 0 < x.f1.size, ((x.f1[0]'h).toNat : Int) = 80 := fun h => (hba h).trans h80
      clear hba h80 hem
      by_cases hc0 : cn = 0
      ·
       have HC0 := aC.mk hc0
       subst hc0
       have HOL : aC (o.length ≤ 1048576) := ⟨by
        rw [HO.out, List.length_reverse]
        have h1 := wW (l.drop (j + 1))
        have h2 := HL.out
        rw [List.length_drop] at h1
        omega⟩
       go_upto_region 11 with fail
       have hS3 := Sep.drew H.out
       refine iI (n := 10) (S := fun w' => (∀ j : Nat, w'.cell? ⟨gr, j, none⟩ = [.int .u64 x.f0, .string x.f1][j]?)) (ds := []) #[false, false, false, false, false, false, false, false, false, false] (by kernel_rfl) rfl rfl ((fun j => ((Sep.drew H.out)).cell (g := gr) aQ j)) (fun hHeld => ?_)
       refine puS (i := 0) (N := some 48) (v := ?_) (a' := ?_) rfl rfl (by kernel_rfl) (fun _ _ _ h => h) (Or.inl ⟨by rfl, ?_⟩) ?_ ?_
       rotate_left
       ·intro w'
        go_simp
        with_reducible rfl
       rotate_left
       ·simp only [Act.put, zA, zZ, zS, aI, aJ]
        rfl
       refine puS (i := 1) (N := some 49) (v := ?_) (a' := ?_) rfl rfl (by kernel_rfl) (fun _ _ _ h => h) (Or.inl ⟨by rfl, ?_⟩) ?_ ?_
       rotate_left
       ·intro w'
        go_simp
        with_reducible rfl
       rotate_left
       ·simp only [Act.put, zA, zZ, zS, aI, aJ]
        rfl
       refine puS (i := 3) (N := some 51) (v := ?_) (a' := ?_) rfl rfl (by kernel_rfl) (fun _ _ _ h => h) (Or.inl ⟨by rfl, ?_⟩) ?_ ?_
       rotate_left
       ·intro w'
        go_simp
        with_reducible rfl
       rotate_left
       ·simp only [Act.put, zA, zZ, zS, aI, aJ]
        rfl
       refine tkS (i := 2) (N := some 50) (v := ?_) (a' := ?_) rfl rfl (by kernel_rfl) (fun _ _ _ h => h) (Or.inl ⟨by rfl, ?_⟩) hHeld ?_ ?_
       rotate_left
       ·intro w' s0
        go_simp
        with_reducible rfl
       rotate_left
       ·simp only [Act.put, zA, zZ, zS, aI, aJ]
        rfl
       refine tkS (i := 4) (N := some 52) (v := ?_) (a' := ?_) rfl rfl (by kernel_rfl) (fun _ _ _ h => h) (Or.inl ⟨by rfl, ?_⟩) hHeld ?_ ?_
       rotate_left
       ·intro w' s0
        go_simp
        with_reducible rfl
       rotate_left
       ·simp only [Act.put, zA, zZ, zS, aI, aJ]
        rfl
       refine puS (i := 5) (N := some 53) (v := ?_) (a' := ?_) rfl rfl (by kernel_rfl) (fun _ _ _ h => h) (Or.inl ⟨by rfl, ?_⟩) ?_ ?_
       rotate_left
       ·intro w'
        go_simp
        with_reducible rfl
       rotate_left
       ·simp only [Act.put, zA, zZ, zS, aI, aJ]
        rfl
       refine puS (i := 6) (N := some 54) (v := ?_) (a' := ?_) rfl rfl (by kernel_rfl) (fun _ _ _ h => h) (Or.inl ⟨by rfl, ?_⟩) ?_ ?_
       rotate_left
       ·intro w'
        go_simp
        with_reducible rfl
       rotate_left
       ·simp only [Act.put, zA, zZ, zS, aI, aJ]
        rfl
       refine onS (i := 7) (N := some 55) rfl rfl (by kernel_rfl) (by decide) (fun K hK => ?_)
       refine RF (N := some 55) (by rfl) rfl hS3 [.int .u64 x.f0, .string (x.f1.extract 1 x.f1.size), .bool false] 41 1 ?_ ?_
       ·first | (go_simp; done) | (go_simp; rfl)
       intro g9 w9 hS9
       refine hK.out _ _ ((fun j => (hS9).cell (g := gr) mem1 j)) (fun hHeld => ?_)
       clear hK K
       refine fH (a' := ?_) ?_ ?_
       rotate_left
       ·show Act.put _ (some 55) _ = _
        simp only [Act.put, zA, zZ, zS, aI, aJ]
        rfl
       refine onS (i := 8) (N := some 56) rfl rfl (by kernel_rfl) (by decide) (fun K hK => ?_)
       refine zN k41 yK (by rfl) (.tmp 48) (.tmp 55) 31 41 (.agg #[.int .u64 0, .string ⟨#[]⟩, .bool false]) 32 rfl Tryz.underlying31 OD rfl (by decide) (by decide) (.slice Ao o.length co) o [(⟨x.f0, x.f1.extract 1 x.f1.size, false⟩ : S41)] (some ⟨g9, 0, none⟩) 1 (by first | rfl | (go_simp; done) | (go_simp; rfl)) (by first | rfl | (go_simp; done) | (go_simp; rfl)) (ZK (fun j => hS9.cell (g := g9) aQ j)) (fun x cs h => by obtain rfl := DK h; exact I8 _ _ _ _) hS9.gY (by have := HOL.out; simp only [List.length_singleton]; omega) ?_
       intro A10 c10 w10 qH
       obtain ⟨o2, ho2⟩ : ∃ o2, o2 = o ++ [(⟨x.f0, x.f1.extract 1 x.f1.size, false⟩ : S41)] := ⟨_, rfl⟩
       rw [← ho2] at qH ⊢
       have HO2 := aC.mk ho2
       clear ho2
       refine hK.out _ _ ((fun j => qH.cell (g := gr) mem2 j)) (fun hHeld => ?_)
       clear hK K
       refine fH (a' := ?_) ?_ ?_
       rotate_left
       ·show Act.put _ (some 56) _ = _
        simp only [Act.put, zA, zZ, zS, aI, aJ]
        rfl
       refine puS (i := 9) (N := some 4) (v := ?_) (a' := ?_) rfl rfl (by kernel_rfl) (fun _ _ _ h => h) (Or.inl ⟨by rfl, ?_⟩) ?_ ?_
       rotate_left
       ·intro w'
        go_simp
        with_reducible rfl
       rotate_left
       ·simp only [Act.put, zA, zZ, zS, aI, aJ]
        rfl
       refine jT (by kernel_rfl) ?_
       go_wp2_with fail
       try rw [hw3]
       refine ⟨⟨j, o2, A10, c10, m, D, ?_, rfl, by omega, by omega, ⟨?_⟩, HGD, ⟨(Sep.drop1 (Sep.drop2 qH))⟩⟩, by simp [intOf] <;> omega⟩
       ·rfl
       ·rw [HO2.out, HO.out, HDJ.out, dH, if_pos ⟨HAK.out, ⟨HEM.out, H80.out⟩, HCN.out.symm⟩, List.reverse_cons]
      ·
       have HC0 := aC.mk hc0
       have hcb : ((cn : Int) == 0) = false := by simpa using hc0
       have hcp : ¬ (cn : Int) = 0 := by omega
       clear hc0
       go_wp2_with fail
       try rw [hw3]
       refine ⟨⟨j, o, Ao, co, m, D, rfl, rfl, by omega, by omega, ⟨?_⟩, HGD, ⟨(Sep.dJ H.out)⟩⟩, by simp [intOf] <;> omega⟩
       rw [HO.out, HDJ.out, dH, if_neg (fun h => HC0.out (HCN.out.trans h.2.2))]
     ·
      have H80 := aC.mk h80
      have hb3 : ∀ h : 0 < x.f1.size, ¬ ((x.f1[0]'h).toNat : Int) = 80 := fun h e => h80 ((hba h).symm.trans e)
      clear hba h80 hem
      go_wp2_with fail
      try rw [hw3]
      refine ⟨⟨j, o, Ao, co, m, D, rfl, rfl, by omega, by omega, ⟨?_⟩, HGD, ⟨(Sep.dJ H.out)⟩⟩, by simp [intOf] <;> omega⟩
      rw [HO.out, HDJ.out, dH, if_neg (fun h => H80.out h.2.1.2)]
end Go.Proofs.U
