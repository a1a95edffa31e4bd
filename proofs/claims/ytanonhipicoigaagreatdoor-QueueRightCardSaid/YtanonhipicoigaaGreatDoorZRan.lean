import Derived.Test.YtanonhipicoigaaGreatDoorZRam
import Derived.Test.YtanonhipicoigaaGreatDoorZRak
import Derived.Test.YtanonhipicoigaaGreatDoorZRag
set_option linter.unusedVariables false
set_option linter.unusedSimpArgs false
set_option maxRecDepth 100000
namespace Go.Proofs.U
open Go.RowKit Go.Proofs.aA.aK Go.Proofs.aA.aW Go.Proofs.aA.aX Go.Proofs.Sp Go.Proofs.gB
theorem wY {b : World} {gl fdo : Nat} {lb : Array Value} {L : Lg} {rs : List Res} {R : Lg} {n : Int} (h : LK b gl fdo lb L rs R n) (more : List Res) : LK b gl fdo lb L (rs ++ more) R n := by
 intro A c w ts H
 rw [List.append_assoc] at H ⊢
 exact h A c w (more ++ ts) H
theorem NK (S : Sum) (ps : List Pl) (n : Nat) : (goF S ps n).gone.length ≤ ps.length := by
 obtain ⟨kept, ds, m, hc, hh⟩ := wU S ps n
 rcases hh with ⟨_, a2, _⟩ | ⟨p, e, dt, _, a2, _⟩
 ·have := congrArg List.length a2
  rw [List.length_append] at this
  omega
 ·have := congrArg List.length a2
  rw [List.length_append, List.length_cons] at this
  omega
theorem iF {b w : World} {rs : List Res} (H : Sep b w rs) {i j g g' : Nat} {cs cs' : List Value} {t t' : TypeId} (hi : rs[i]? = some (box g cs t)) (hj : rs[j]? = some (box g' cs' t')) (hij : i < j) : ¬ g = g' := by
 obtain ⟨h1, e1⟩ := List.getElem?_eq_some_iff.1 hi
 obtain ⟨h2, e2⟩ := List.getElem?_eq_some_iff.1 hj
 have h := List.pairwise_iff_getElem.1 H.apart i j h1 h2 hij
 rw [e1, e2] at h
 exact fun e => h g rfl e
def Lz : Lg := ⟨[], false, 0, 0, 0, 0, 0, false⟩
noncomputable def findF (l : List S67) : gB.Fd := goF SU (aN l) (dP (aN l))
noncomputable def iZ (l : List S67) (dn : Bool) (fu fa size : Int) : Lg × List S62 × Int :=
 if bI l = true then
  if size < 1 ∨ 262144 < size then (Lz, [], 2)
  else if dn = true then (Lz, [], 17)
  else ((iC ⟨l, dn, fu, fa, size, 0, 0, false⟩ (findF l) (dP (aN l))).1, if (iC ⟨l, dn, fu, fa, size, 0, 0, false⟩ (findF l) (dP (aN l))).2 = 0 then bV (findF l).recs (dP (aN l)) else [],
   (iC ⟨l, dn, fu, fa, size, 0, 0, false⟩ (findF l) (dP (aN l))).2)
 else (Lz, [], 6)
set_option maxHeartbeats 8000000 in
theorem open_any (A : Option Addr) (c : Nat) (l : List S67) (dn : Bool) (fu fa size : Int) (w : World) (hr : Kd.C k67 w A l.length l) (hc : l.length ≤ c) (hG : Gl w) :
  Calls Tryz.prog 26 #[.agg #[.slice A l.length c, .bool dn, .int .i64 fu, .int .i64 fa], .int .i64 size] w fun e w' => ∃ A' c' A2 c2, e = .returned (.tuple #[.agg (lgc A' c' (iZ l dn fu fa size).1).toArray, .slice A2 (iZ l dn fu fa size).2.1.length c2, .int .i64 (iZ l dn fu fa size).2.2])
   ∧ aC (Sep w w' [lV A' c' (iZ l dn fu fa size).1.l, row k62 62 (.slice A2 (iZ l dn fu fa size).2.1.length c2) (iZ l dn fu fa size).2.1]) := by
 have HRp := aC.mk hr
 have HCp := aC.mk hc
 have HG := aC.mk hG
 have HMX := aC.mk (Kd.VO hr)
 clear hr hc hG
 obtain ⟨O, hO⟩ : ∃ O, O = iZ l dn fu fa size := ⟨_, rfl⟩
 rw [← hO]
 have HO := aC.mk hO
 clear hO
 have H := aC.mk (Sep.start w)
 go_enter Tryz.func26, Tryz.ntmps26
 go_wp2_with (first
 |((with_reducible refine aU (N := 2) rfl ?_);
   refine bK rfl H (cs := [.slice A l.length c, .bool dn, .int .i64 fu, .int .i64 fa]) (t := 27) ?hr ?_;
   (case hr => first | (go_simp; done) | (go_simp; rfl));
   intro gd wd1 n_;
   simp only [Act.put, zA, zZ, zS];
   clear H;
   have H := n_;
   clear n_;
   have c_d := H.out.cell (g := gd) aP)
 |((with_reducible refine aU (N := 4) rfl ?_);
   refine bK rfl H (cs := [.slice none 0 0, .bool false, .int .i64 0, .int .i64 0, .int .i64 0, .int .u64 0, .int .u64 0, .bool false]) (t := 30) ?hr ?_;
   (case hr => first | (go_simp; done) | (go_simp; rfl));
   intro gz wd2 n_;
   simp only [Act.put, zA, zZ, zS];
   clear H c_d;
   have H := n_;
   clear n_;
   have c_z := H.out.cell (g := gz) aP;
   have c_d := H.out.cell (g := gd) mem1)
 |fail)
 by_cases hok : bI l = true
 ·
  refine ((dW.calls A c l dn fu fa 0 _ (H.out.came HRp.out) HCp.out (by rw [dW.f, if_pos hok])).mono ?_)
  rintro e wd3 ⟨rfl, hb_⟩
  have n_ : aC (Sep w wd3 [box gz [.slice none 0 0, .bool false, .int .i64 0, .int .i64 0, .int .i64 0, .int .u64 0, .int .u64 0, .bool false] 30, box gd [.slice A l.length c, .bool dn, .int .i64 fu, .int .i64 fa] 27]) := ⟨H.out.step hb_⟩
  clear H c_z c_d
  have H := n_
  clear n_
  have c_z := H.out.cell (g := gz) aP
  have c_d := H.out.cell (g := gd) mem1
  clear hb_
  have HOK := aC.mk hok
  have hlen : l.length ≤ 64 := jZ hok
  clear hok
  by_cases hsz : size < 1 ∨ 262144 < size
  ·
   have HSZ := aC.mk hsz
   by_cases hs1 : size < 1
   ·
    clear hsz
    have hOV : O = (Lz, [], 2) := by rw [HO.out, iZ, if_pos HOK.out, if_pos HSZ.out]
    clear HO
    clear c_z c_d
    have c_z := H.out.cell (g := gz) aP
    have z_z := H.out.frozen (g := gz) aP
    have c_d := H.out.cell (g := gd) mem1
    go_wp2_with (first
 |((with_reducible refine aV (t := 30) (p := 4) rfl ?_);
   refine bH (rs1 := [box gz [.slice none 0 0, .bool false, .int .i64 0, .int .i64 0, .int .i64 0, .int .u64 0, .int .u64 0, .bool false] 30, box gd [.slice A l.length c, .bool dn, .int .i64 fu, .int .i64 fa] 27]) rfl (t := 30) (p := 4) rfl rfl ?hr (H1 := (Sep.set0 (Sep.set0 (Sep.set0 (Sep.set0 (Sep.set0 (Sep.set0 (Sep.set0 (Sep.set0 H.out 0 (.slice none 0 0) rfl) 1 (.bool false) rfl) 2 (.int .i64 0) rfl) 3 (.int .i64 0) rfl) 4 (.int .i64 0) rfl) 5 (.int .u64 0) rfl) 6 (.int .u64 0) rfl) 7 (.bool false) rfl)) ?_;
   (case hr => first | (go_simp; done) | (go_simp; rfl));
   intro wd4 n_;
   clear H c_z z_z c_d;
   have H := n_;
   clear n_;
   have c_z := H.out.cell (g := gz) aP;
   have z_z := H.out.frozen (g := gz) aP;
   have c_d := H.out.cell (g := gd) mem1)
 |fail)
    refine bodyPost_ret (dH (rs := [.cell 4 30, .tmp 5, .tmp 6]) rfl (by simp) (.cell gz 30 _ _ _ rfl (H.out.jF (g := gz) aP) Tryz.underlying30 rfl info30 (.tmp (.tmp .nil)))) rfl ?_
    subst hOV
    exact ⟨none, 0, none, 0, rfl, ⟨Sep.eU (Sep.eU (Sep.eG (Sep.drop1 H.out)))⟩⟩
   ·
    have hs2 : 262144 < size := by omega
    clear hsz
    have hOV : O = (Lz, [], 2) := by rw [HO.out, iZ, if_pos HOK.out, if_pos HSZ.out]
    clear HO
    clear c_z c_d
    have c_z := H.out.cell (g := gz) aP
    have z_z := H.out.frozen (g := gz) aP
    have c_d := H.out.cell (g := gd) mem1
    go_wp2_with (first
 |((with_reducible refine aV (t := 30) (p := 4) rfl ?_);
   refine bH (rs1 := [box gz [.slice none 0 0, .bool false, .int .i64 0, .int .i64 0, .int .i64 0, .int .u64 0, .int .u64 0, .bool false] 30, box gd [.slice A l.length c, .bool dn, .int .i64 fu, .int .i64 fa] 27]) rfl (t := 30) (p := 4) rfl rfl ?hr (H1 := (Sep.set0 (Sep.set0 (Sep.set0 (Sep.set0 (Sep.set0 (Sep.set0 (Sep.set0 (Sep.set0 H.out 0 (.slice none 0 0) rfl) 1 (.bool false) rfl) 2 (.int .i64 0) rfl) 3 (.int .i64 0) rfl) 4 (.int .i64 0) rfl) 5 (.int .u64 0) rfl) 6 (.int .u64 0) rfl) 7 (.bool false) rfl)) ?_;
   (case hr => first | (go_simp; done) | (go_simp; rfl));
   intro wd5 n_;
   clear H c_z z_z c_d;
   have H := n_;
   clear n_;
   have c_z := H.out.cell (g := gz) aP;
   have z_z := H.out.frozen (g := gz) aP;
   have c_d := H.out.cell (g := gd) mem1)
 |fail)
    refine bodyPost_ret (dH (rs := [.cell 4 30, .tmp 5, .tmp 6]) rfl (by simp) (.cell gz 30 _ _ _ rfl (H.out.jF (g := gz) aP) Tryz.underlying30 rfl info30 (.tmp (.tmp .nil)))) rfl ?_
    subst hOV
    exact ⟨none, 0, none, 0, rfl, ⟨Sep.eU (Sep.eU (Sep.eG (Sep.drop1 H.out)))⟩⟩
  ·
   have HSZ := aC.mk hsz
   have hs1 : ¬ size < 1 := by omega
   have hs2 : ¬ 262144 < size := by omega
   clear hsz
   cases dn with
   | true =>
    have hOV : O = (Lz, [], 17) := by rw [HO.out, iZ, if_pos HOK.out, if_neg HSZ.out, if_pos rfl]
    clear HO
    clear c_z c_d
    have c_z := H.out.cell (g := gz) aP
    have z_z := H.out.frozen (g := gz) aP
    have c_d := H.out.cell (g := gd) mem1
    go_wp2_with (first
 |((with_reducible refine aV (t := 30) (p := 4) rfl ?_);
   refine bH (rs1 := [box gz [.slice none 0 0, .bool false, .int .i64 0, .int .i64 0, .int .i64 0, .int .u64 0, .int .u64 0, .bool false] 30, box gd [.slice A l.length c, .bool true, .int .i64 fu, .int .i64 fa] 27]) rfl (t := 30) (p := 4) rfl rfl ?hr (H1 := (Sep.set0 (Sep.set0 (Sep.set0 (Sep.set0 (Sep.set0 (Sep.set0 (Sep.set0 (Sep.set0 H.out 0 (.slice none 0 0) rfl) 1 (.bool false) rfl) 2 (.int .i64 0) rfl) 3 (.int .i64 0) rfl) 4 (.int .i64 0) rfl) 5 (.int .u64 0) rfl) 6 (.int .u64 0) rfl) 7 (.bool false) rfl)) ?_;
   (case hr => first | (go_simp; done) | (go_simp; rfl));
   intro wd6 n_;
   clear H c_z z_z c_d;
   have H := n_;
   clear n_;
   have c_z := H.out.cell (g := gz) aP;
   have z_z := H.out.frozen (g := gz) aP;
   have c_d := H.out.cell (g := gd) mem1)
 |fail)
    refine bodyPost_ret (dH (rs := [.cell 4 30, .tmp 5, .tmp 6]) rfl (by simp) (.cell gz 30 _ _ _ rfl (H.out.jF (g := gz) aP) Tryz.underlying30 rfl info30 (.tmp (.tmp .nil)))) rfl ?_
    subst hOV
    exact ⟨none, 0, none, 0, rfl, ⟨Sep.eU (Sep.eU (Sep.eG (Sep.drop1 H.out)))⟩⟩
   | false =>
    obtain ⟨ps, hps⟩ : ∃ ps, ps = aN l := ⟨_, rfl⟩
    have HPS := aC.mk hps
    obtain ⟨n0, hn0⟩ : ∃ n0, n0 = dP ps := ⟨_, rfl⟩
    obtain ⟨F, hF⟩ : ∃ F, F = goF SU ps n0 := ⟨_, rfl⟩
    have HF := aC.mk hF
    have HFN := aC.mk (fun A c w hr hc hG => (qba A c l false fu fa w hr hc HOK.out hG))
    rw [← hps, ← hn0, ← hF] at HFN
    have hgl : F.gone.length ≤ 64 := by
     have h1 := NK SU ps n0
     rw [← hF] at h1
     have h2 := oM l
     rw [← hps] at h2
     omega
    have HTN : aC (∀ x, F.qN = some x → x.1.1.f0.toList ≠ []) := ⟨fun x hx => (oV HOK.out HPS.out (QX (S := SU) (n := n0) (x := x) (by rw [← hF]; exact hx))).2.2⟩
    obtain ⟨R, hR⟩ : ∃ R, R = iC ⟨l, false, fu, fa, size, 0, 0, false⟩ F n0 := ⟨_, rfl⟩
    have HR := aC.mk hR
    have hOV : O = (R.1, if R.2 = 0 then bV F.recs n0 else [], R.2) := by
     rw [HO.out, iZ, if_pos HOK.out, if_neg HSZ.out, if_neg (by simp), findF, ← hps, ← hn0, ← hF, ← hR]
    have HOV := aC.mk hOV
    clear HO hps hn0 hF hR hOV
    go_wp2_with fail
    refine ((HFN.out A c _ (H.out.came HRp.out) HCp.out (HG.out.below H.out.below)).mono ?_)
    rintro e wd7 ⟨A1, c1, A2, c2, Aq, cq, rfl, HJ, hC, hc2⟩
    have n_ : aC (Sep w wd7 [row k62 62 (.slice A1 ((bV F.recs n0)).length c1) ((bV F.recs n0)), row dX 139 (.slice Aq (ps).length cq) ps, box gz [.slice none 0 0, .bool false, .int .i64 0, .int .i64 0, .int .i64 0, .int .u64 0, .int .u64 0, .bool false] 30, box gd [.slice A l.length c, .bool false, .int .i64 fu, .int .i64 fa] 27]) := ⟨fM H.out HJ.out⟩
    clear H c_z c_d
    have H := n_
    clear n_
    have c_z := H.out.cell (g := gz) mem2
    have c_d := H.out.cell (g := gd) mem3
    clear HJ
    have HC := aC.mk hC
    clear hC
    obtain ⟨tn, htn⟩ : ∃ tn, tn = pF F.qN := ⟨_, rfl⟩
    obtain ⟨ta, hta⟩ : ∃ ta, ta = wW F.qN := ⟨_, rfl⟩
    rw [← htn, ← hta]
    have HTM := aC.mk htn.symm
    have HTA := aC.mk hta.symm
    clear htn hta
    go_wp2_with (first
 |((with_reducible refine aU (N := 8) rfl ?_);
   refine bK rfl H (cs := [.slice none 0 0, .int .u64 0, .int .u64 0, .string ⟨#[]⟩, .int .i64 0, .slice none 0 0]) (t := 129) ?hr ?_;
   (case hr => first | (go_simp; done) | (go_simp; rfl));
   intro gf wd8 n_;
   simp only [Act.put, zA, zZ, zS];
   clear H c_z c_d;
   have H := n_;
   clear n_;
   have c_f := H.out.cell (g := gf) aP;
   have z_f := H.out.frozen (g := gf) aP;
   have c_z := H.out.cell (g := gz) mem3;
   have c_d := H.out.cell (g := gd) bT)
 |((with_reducible refine aV (t := 129) (p := 8) rfl ?_);
   refine bH (rs1 := [box gf [.slice A1 (bV F.recs n0).length c1, .int .u64 (n0 : Int), .int .u64 (F.next : Int), .string tn, .int .i64 ta, .slice A2 F.gone.length c2] 129, row k62 62 (.slice A1 ((bV F.recs n0)).length c1) ((bV F.recs n0)), row dX 139 (.slice Aq (ps).length cq) ps, box gz [.slice none 0 0, .bool false, .int .i64 0, .int .i64 0, .int .i64 0, .int .u64 0, .int .u64 0, .bool false] 30, box gd [.slice A l.length c, .bool false, .int .i64 fu, .int .i64 fa] 27]) rfl (t := 129) (p := 8) rfl rfl ?hr (H1 := (Sep.set0 (Sep.set0 (Sep.set0 (Sep.set0 (Sep.set0 (Sep.set0 H.out 0 (.slice A1 (bV F.recs n0).length c1) rfl) 1 (.int .u64 (n0 : Int)) rfl) 2 (.int .u64 (F.next : Int)) rfl) 3 (.string tn) rfl) 4 (.int .i64 ta) rfl) 5 (.slice A2 F.gone.length c2) rfl)) ?_;
   (case hr => first | (go_simp; done) | (go_simp; rfl));
   intro wd9 n_;
   clear H c_f z_f c_z c_d;
   have H := n_;
   clear n_;
   have c_f := H.out.cell (g := gf) aP;
   have z_f := H.out.frozen (g := gf) aP;
   have c_z := H.out.cell (g := gz) mem3;
   have c_d := H.out.cell (g := gd) bT)
 |fail)
    refine ((NH A c l false fu fa _ (H.out.came HRp.out) hlen).mono ?_)
    rintro e ED ⟨A3, c3, rfl, HJ⟩
    have n_ : aC (Sep w ED [row k67 67 (.slice A3 (l).length c3) l, box gf [.slice A1 (bV F.recs n0).length c1, .int .u64 (n0 : Int), .int .u64 (F.next : Int), .string tn, .int .i64 ta, .slice A2 F.gone.length c2] 129, row k62 62 (.slice A1 ((bV F.recs n0)).length c1) ((bV F.recs n0)), row dX 139 (.slice Aq (ps).length cq) ps, box gz [.slice none 0 0, .bool false, .int .i64 0, .int .i64 0, .int .i64 0, .int .u64 0, .int .u64 0, .bool false] 30, box gd [.slice A l.length c, .bool false, .int .i64 fu, .int .i64 fa] 27]) := ⟨fM H.out HJ.out⟩
    clear H c_f z_f c_z c_d
    have H := n_
    clear n_
    have c_f := H.out.cell (g := gf) mem1
    have z_f := H.out.frozen (g := gf) mem1
    have c_z := H.out.cell (g := gz) bT
    have c_d := H.out.cell (g := gd) dM
    clear HJ
    go_wp2_with (first
 |((with_reducible refine aU (N := 37) rfl ?_);
   refine bK rfl H (cs := [.slice A3 l.length c3, .bool false, .int .i64 fu, .int .i64 fa, .int .i64 size, .int .u64 0, .int .u64 0, .bool false]) (t := 134) ?hr ?_;
   (case hr => first | (go_simp; done) | (go_simp; rfl));
   intro gl NJ n_;
   simp only [Act.put, zA, zZ, zS];
   clear H c_f z_f c_z c_d;
   have H := n_;
   clear n_;
   have c_l := H.out.cell (g := gl) aP;
   have c_f := H.out.cell (g := gf) mem2;
   have c_z := H.out.cell (g := gz) dM;
   have c_d := H.out.cell (g := gd) jL)
 |((with_reducible refine aU (N := 9) rfl ?_);
   refine bK rfl H (cs := [.pointer none]) (t := 131) ?hr ?_;
   (case hr => first | (go_simp; done) | (go_simp; rfl));
   intro gv JQ n_;
   simp only [Act.put, zA, zZ, zS];
   clear H c_l c_f c_z c_d;
   have H := n_;
   clear n_;
   have c_v := H.out.cell (g := gv) aP;
   have z_v := H.out.frozen (g := gv) aP;
   have c_l := H.out.cell (g := gl) mem1;
   have c_f := H.out.cell (g := gf) mem3;
   have c_z := H.out.cell (g := gz) jL;
   have c_d := H.out.cell (g := gd) wJ)
 |((with_reducible refine aV (t := 131) (p := 9) rfl ?_);
   refine bH (rs1 := [box gv [.pointer (some ⟨gl, 0, none⟩)] 131, box gl [.slice A3 l.length c3, .bool false, .int .i64 fu, .int .i64 fa, .int .i64 size, .int .u64 0, .int .u64 0, .bool false] 134, row k67 67 (.slice A3 (l).length c3) l, box gf [.slice A1 (bV F.recs n0).length c1, .int .u64 (n0 : Int), .int .u64 (F.next : Int), .string tn, .int .i64 ta, .slice A2 F.gone.length c2] 129, row k62 62 (.slice A1 ((bV F.recs n0)).length c1) ((bV F.recs n0)), row dX 139 (.slice Aq (ps).length cq) ps, box gz [.slice none 0 0, .bool false, .int .i64 0, .int .i64 0, .int .i64 0, .int .u64 0, .int .u64 0, .bool false] 30, box gd [.slice A l.length c, .bool false, .int .i64 fu, .int .i64 fa] 27]) rfl (t := 131) (p := 9) rfl rfl ?hr (H1 := (Sep.set0 H.out 0 (.pointer (some ⟨gl, 0, none⟩)) rfl)) ?_;
   (case hr => first | (go_simp; done) | (go_simp; rfl));
   intro JR n_;
   clear H c_v z_v c_l c_f c_z c_d;
   have H := n_;
   clear n_;
   have c_v := H.out.cell (g := gv) aP;
   have z_v := H.out.frozen (g := gv) aP;
   have c_l := H.out.cell (g := gl) mem1;
   have c_f := H.out.cell (g := gf) mem3;
   have c_z := H.out.cell (g := gz) jL;
   have c_d := H.out.cell (g := gd) wJ)
 |fail)
    have hdo := wY (qch w gl gf gv ⟨l, false, fu, fa, size, 0, 0, false⟩ F n0 A1 A2 Aq (bV F.recs n0).length c1 c2 cq ps HC.out hgl HTM.out HTN.out HTA.out) [row k62 62 (.slice A1 ((bV F.recs n0)).length c1) ((bV F.recs n0)), box gz [.slice none 0 0, .bool false, .int .i64 0, .int .i64 0, .int .i64 0, .int .u64 0, .int .u64 0, .bool false] 30, box gd [.slice A l.length c, .bool false, .int .i64 fu, .int .i64 fa] 27]
    rw [← HR.out] at hdo
    refine (AX hdo (fun args w => by simp [go_sem]) A3 c3 _ ⟨(Sep.D5 (Sep.D5 (Sep.D5 (Sep.iR (Sep.D5 (Sep.pO (Sep.D5 (Sep.D5 H.out))))))))⟩).mono ?_
    rintro e TQ ⟨A4, c4, rfl, H2⟩
    clear hdo
    have n_ : aC (Sep w TQ [box gl [.slice A4 R.1.l.length c4, .bool R.1.dn, .int .i64 R.1.fu, .int .i64 R.1.fa, .int .i64 R.1.size, .int .u64 R.1.fr, .int .u64 R.1.nx, .bool R.1.br] 134, row k67 67 (.slice A4 (R.1.l).length c4) R.1.l, box gf [.slice A1 (bV F.recs n0).length c1, .int .u64 (n0 : Int), .int .u64 (F.next : Int), .string tn, .int .i64 ta, .slice A2 F.gone.length c2] 129, box gv [.pointer (some ⟨gl, 0, none⟩)] 131, row dX 139 (.slice Aq (ps).length cq) ps, row k62 62 (.slice A1 ((bV F.recs n0)).length c1) ((bV F.recs n0)), box gz [.slice none 0 0, .bool false, .int .i64 0, .int .i64 0, .int .i64 0, .int .u64 0, .int .u64 0, .bool false] 30, box gd [.slice A l.length c, .bool false, .int .i64 fu, .int .i64 fa] 27]) := ⟨H2.out⟩
    clear H c_v z_v c_l c_f c_z c_d
    have H := n_
    clear n_
    have c_l := H.out.cell (g := gl) aP
    have c_f := H.out.cell (g := gf) mem2
    have c_v := H.out.cell (g := gv) mem3
    have c_z := H.out.cell (g := gz) jL
    have z_z := H.out.frozen (g := gz) jL
    have c_d := H.out.cell (g := gd) wJ
    clear H2
    simp only [lgc]
    by_cases hz : R.2 = 0
    ·
     go_wp2_with (first
 |((with_reducible refine aU (N := 10) rfl ?_);
   refine bK rfl H (cs := [.slice none 0 0, .bool false, .int .i64 0, .int .i64 0, .int .i64 0, .int .u64 0, .int .u64 0, .bool false]) (t := 30) ?hr ?_;
   (case hr => first | (go_simp; done) | (go_simp; rfl));
   intro gk KR n_;
   simp only [Act.put, zA, zZ, zS];
   clear H c_l c_f c_v c_z z_z c_d;
   have H := n_;
   clear n_;
   have c_k := H.out.cell (g := gk) aP;
   have z_k := H.out.frozen (g := gk) aP;
   have c_l := H.out.cell (g := gl) mem1;
   have c_f := H.out.cell (g := gf) mem3;
   have c_v := H.out.cell (g := gv) bT;
   have c_z := H.out.cell (g := gz) wJ;
   have z_z := H.out.frozen (g := gz) wJ;
   have c_d := H.out.cell (g := gd) YV)
 |((with_reducible refine aV (t := 30) (p := 10) rfl ?_);
   refine bH (rs1 := [box gk [.slice A4 R.1.l.length c4, .bool R.1.dn, .int .i64 R.1.fu, .int .i64 R.1.fa, .int .i64 R.1.size, .int .u64 R.1.fr, .int .u64 R.1.nx, .bool R.1.br] 30, box gl [.slice A4 R.1.l.length c4, .bool R.1.dn, .int .i64 R.1.fu, .int .i64 R.1.fa, .int .i64 R.1.size, .int .u64 R.1.fr, .int .u64 R.1.nx, .bool R.1.br] 134, row k67 67 (.slice A4 (R.1.l).length c4) R.1.l, box gf [.slice A1 (bV F.recs n0).length c1, .int .u64 (n0 : Int), .int .u64 (F.next : Int), .string tn, .int .i64 ta, .slice A2 F.gone.length c2] 129, box gv [.pointer (some ⟨gl, 0, none⟩)] 131, row dX 139 (.slice Aq (ps).length cq) ps, row k62 62 (.slice A1 ((bV F.recs n0)).length c1) ((bV F.recs n0)), box gz [.slice none 0 0, .bool false, .int .i64 0, .int .i64 0, .int .i64 0, .int .u64 0, .int .u64 0, .bool false] 30, box gd [.slice A l.length c, .bool false, .int .i64 fu, .int .i64 fa] 27]) rfl (t := 30) (p := 10) rfl rfl ?hr (H1 := (Sep.set0 (Sep.set0 (Sep.set0 (Sep.set0 (Sep.set0 (Sep.set0 (Sep.set0 (Sep.set0 H.out 0 (.slice A4 R.1.l.length c4) rfl) 1 (.bool R.1.dn) rfl) 2 (.int .i64 R.1.fu) rfl) 3 (.int .i64 R.1.fa) rfl) 4 (.int .i64 R.1.size) rfl) 5 (.int .u64 R.1.fr) rfl) 6 (.int .u64 R.1.nx) rfl) 7 (.bool R.1.br) rfl)) ?_;
   (case hr => first | (go_simp; done) | (go_simp; rfl));
   intro ZL n_;
   clear H c_k z_k c_l c_f c_v c_z z_z c_d;
   have H := n_;
   clear n_;
   have c_k := H.out.cell (g := gk) aP;
   have z_k := H.out.frozen (g := gk) aP;
   have c_l := H.out.cell (g := gl) mem1;
   have c_f := H.out.cell (g := gf) mem3;
   have c_v := H.out.cell (g := gv) bT;
   have c_z := H.out.cell (g := gz) wJ;
   have z_z := H.out.frozen (g := gz) wJ;
   have c_d := H.out.cell (g := gd) YV)
 |fail)
     have hne : ¬ gf = gz := iF H.out (i := 3) (j := 7) rfl rfl (by decide)
     have hne2 : ¬ gz = gf := fun e => hne e.symm
     have c_f := H.out.cell (g := gf) mem3
     go_region
     clear c_f hne hne2
     refine qI (rs := [box gk [.slice A4 R.1.l.length c4, .bool R.1.dn, .int .i64 R.1.fu, .int .i64 R.1.fa, .int .i64 R.1.size, .int .u64 R.1.fr, .int .u64 R.1.nx, .bool R.1.br] 30, box gl [.slice A4 R.1.l.length c4, .bool R.1.dn, .int .i64 R.1.fu, .int .i64 R.1.fa, .int .i64 R.1.size, .int .u64 R.1.fr, .int .u64 R.1.nx, .bool R.1.br] 134, row k67 67 (.slice A4 (R.1.l).length c4) R.1.l, box gf [.slice A1 (bV F.recs n0).length c1, .int .u64 (n0 : Int), .int .u64 (F.next : Int), .string tn, .int .i64 ta, .slice A2 F.gone.length c2] 129, box gv [.pointer (some ⟨gl, 0, none⟩)] 131, row dX 139 (.slice Aq (ps).length cq) ps, row k62 62 (.slice A1 ((bV F.recs n0)).length c1) ((bV F.recs n0)), box gz [.slice A4 R.1.l.length c4, .bool R.1.dn, .int .i64 R.1.fu, .int .i64 R.1.fa, .int .i64 R.1.size, .int .u64 R.1.fr, .int .u64 R.1.nx, .bool R.1.br] 30, box gd [.slice A l.length c, .bool false, .int .i64 fu, .int .i64 fa] 27]) (Sep.drew (Sep.yJ (Sep.yJ (Sep.yJ (Sep.yJ (Sep.yJ (Sep.yJ (Sep.yJ (Sep.yJ H.out 0 (.slice A4 R.1.l.length c4) rfl) 1 (.bool R.1.dn) rfl) 2 (.int .i64 R.1.fu) rfl) 3 (.int .i64 R.1.fa) rfl) 4 (.int .i64 R.1.size) rfl) 5 (.int .u64 R.1.fr) rfl) 6 (.int .u64 R.1.nx) rfl) 7 (.bool R.1.br) rfl)) ?_
     intro qce n_
     clear H c_k z_k c_l c_f c_v c_z z_z c_d
     have H := n_
     clear n_
     have c_k := H.out.cell (g := gk) aP
     have z_k := H.out.frozen (g := gk) aP
     have c_l := H.out.cell (g := gl) mem1
     have c_f := H.out.cell (g := gf) mem3
     have c_v := H.out.cell (g := gv) bT
     have c_z := H.out.cell (g := gz) wJ
     have z_z := H.out.frozen (g := gz) wJ
     have c_d := H.out.cell (g := gd) YV
     go_wp2_with fail
     refine bodyPost_ret (dH (rs := [.cell 4 30, .tmp 5, .tmp 6]) rfl (by simp) (.cell gz 30 _ _ _ rfl (H.out.jF (g := gz) wJ) Tryz.underlying30 rfl info30 (.tmp (.tmp .nil)))) rfl ?_
     have h := HOV.out
     rw [if_pos hz, hz] at h
     subst h
     exact ⟨A4, c4, A1, c1, rfl, ⟨(Sep.eG (Sep.drop1 (Sep.iJ (Sep.lC (Sep.sQ (Sep.qcT (Sep.qcU H.out)))))))⟩⟩
    ·
     go_wp2_with (first
 |((with_reducible refine aU (N := 10) rfl ?_);
   refine bK rfl H (cs := [.slice none 0 0, .bool false, .int .i64 0, .int .i64 0, .int .i64 0, .int .u64 0, .int .u64 0, .bool false]) (t := 30) ?hr ?_;
   (case hr => first | (go_simp; done) | (go_simp; rfl));
   intro gk qcf n_;
   simp only [Act.put, zA, zZ, zS];
   clear H c_l c_f c_v c_z z_z c_d;
   have H := n_;
   clear n_;
   have c_k := H.out.cell (g := gk) aP;
   have z_k := H.out.frozen (g := gk) aP;
   have c_l := H.out.cell (g := gl) mem1;
   have c_f := H.out.cell (g := gf) mem3;
   have c_v := H.out.cell (g := gv) bT;
   have c_z := H.out.cell (g := gz) wJ;
   have z_z := H.out.frozen (g := gz) wJ;
   have c_d := H.out.cell (g := gd) YV)
 |((with_reducible refine aV (t := 30) (p := 10) rfl ?_);
   refine bH (rs1 := [box gk [.slice A4 R.1.l.length c4, .bool R.1.dn, .int .i64 R.1.fu, .int .i64 R.1.fa, .int .i64 R.1.size, .int .u64 R.1.fr, .int .u64 R.1.nx, .bool R.1.br] 30, box gl [.slice A4 R.1.l.length c4, .bool R.1.dn, .int .i64 R.1.fu, .int .i64 R.1.fa, .int .i64 R.1.size, .int .u64 R.1.fr, .int .u64 R.1.nx, .bool R.1.br] 134, row k67 67 (.slice A4 (R.1.l).length c4) R.1.l, box gf [.slice A1 (bV F.recs n0).length c1, .int .u64 (n0 : Int), .int .u64 (F.next : Int), .string tn, .int .i64 ta, .slice A2 F.gone.length c2] 129, box gv [.pointer (some ⟨gl, 0, none⟩)] 131, row dX 139 (.slice Aq (ps).length cq) ps, row k62 62 (.slice A1 ((bV F.recs n0)).length c1) ((bV F.recs n0)), box gz [.slice none 0 0, .bool false, .int .i64 0, .int .i64 0, .int .i64 0, .int .u64 0, .int .u64 0, .bool false] 30, box gd [.slice A l.length c, .bool false, .int .i64 fu, .int .i64 fa] 27]) rfl (t := 30) (p := 10) rfl rfl ?hr (H1 := (Sep.set0 (Sep.set0 (Sep.set0 (Sep.set0 (Sep.set0 (Sep.set0 (Sep.set0 (Sep.set0 H.out 0 (.slice A4 R.1.l.length c4) rfl) 1 (.bool R.1.dn) rfl) 2 (.int .i64 R.1.fu) rfl) 3 (.int .i64 R.1.fa) rfl) 4 (.int .i64 R.1.size) rfl) 5 (.int .u64 R.1.fr) rfl) 6 (.int .u64 R.1.nx) rfl) 7 (.bool R.1.br) rfl)) ?_;
   (case hr => first | (go_simp; done) | (go_simp; rfl));
   intro qdH n_;
   clear H c_k z_k c_l c_f c_v c_z z_z c_d;
   have H := n_;
   clear n_;
   have c_k := H.out.cell (g := gk) aP;
   have z_k := H.out.frozen (g := gk) aP;
   have c_l := H.out.cell (g := gl) mem1;
   have c_f := H.out.cell (g := gf) mem3;
   have c_v := H.out.cell (g := gv) bT;
   have c_z := H.out.cell (g := gz) wJ;
   have z_z := H.out.frozen (g := gz) wJ;
   have c_d := H.out.cell (g := gd) YV)
 |((with_reducible refine aV (t := 30) (p := 4) rfl ?_);
   refine bH (rs1 := [box gk [.slice A4 R.1.l.length c4, .bool R.1.dn, .int .i64 R.1.fu, .int .i64 R.1.fa, .int .i64 R.1.size, .int .u64 R.1.fr, .int .u64 R.1.nx, .bool R.1.br] 30, box gl [.slice A4 R.1.l.length c4, .bool R.1.dn, .int .i64 R.1.fu, .int .i64 R.1.fa, .int .i64 R.1.size, .int .u64 R.1.fr, .int .u64 R.1.nx, .bool R.1.br] 134, row k67 67 (.slice A4 (R.1.l).length c4) R.1.l, box gf [.slice A1 (bV F.recs n0).length c1, .int .u64 (n0 : Int), .int .u64 (F.next : Int), .string tn, .int .i64 ta, .slice A2 F.gone.length c2] 129, box gv [.pointer (some ⟨gl, 0, none⟩)] 131, row dX 139 (.slice Aq (ps).length cq) ps, row k62 62 (.slice A1 ((bV F.recs n0)).length c1) ((bV F.recs n0)), box gz [.slice A4 R.1.l.length c4, .bool R.1.dn, .int .i64 R.1.fu, .int .i64 R.1.fa, .int .i64 R.1.size, .int .u64 R.1.fr, .int .u64 R.1.nx, .bool R.1.br] 30, box gd [.slice A l.length c, .bool false, .int .i64 fu, .int .i64 fa] 27]) rfl (t := 30) (p := 4) rfl rfl ?hr (H1 := (Sep.yJ (Sep.yJ (Sep.yJ (Sep.yJ (Sep.yJ (Sep.yJ (Sep.yJ (Sep.yJ H.out 0 (.slice A4 R.1.l.length c4) rfl) 1 (.bool R.1.dn) rfl) 2 (.int .i64 R.1.fu) rfl) 3 (.int .i64 R.1.fa) rfl) 4 (.int .i64 R.1.size) rfl) 5 (.int .u64 R.1.fr) rfl) 6 (.int .u64 R.1.nx) rfl) 7 (.bool R.1.br) rfl)) ?_;
   (case hr => first | (go_simp; done) | (go_simp; rfl));
   intro qep n_;
   clear H c_k z_k c_l c_f c_v c_z z_z c_d;
   have H := n_;
   clear n_;
   have c_k := H.out.cell (g := gk) aP;
   have z_k := H.out.frozen (g := gk) aP;
   have c_l := H.out.cell (g := gl) mem1;
   have c_f := H.out.cell (g := gf) mem3;
   have c_v := H.out.cell (g := gv) bT;
   have c_z := H.out.cell (g := gz) wJ;
   have z_z := H.out.frozen (g := gz) wJ;
   have c_d := H.out.cell (g := gd) YV)
 |fail)
     refine bodyPost_ret (dH (rs := [.cell 4 30, .tmp 5, .tmp 6]) rfl (by simp) (.cell gz 30 _ _ _ rfl (H.out.jF (g := gz) wJ) Tryz.underlying30 rfl info30 (.tmp (.tmp .nil)))) rfl ?_
     have h := HOV.out
     rw [if_neg hz] at h
     subst h
     exact ⟨A4, c4, none, 0, rfl, ⟨Sep.iW (Sep.eU (Sep.eG (Sep.drop1 (Sep.iJ (Sep.lC (Sep.sQ (Sep.CP (Sep.qcT (Sep.qcU H.out)))))))))⟩⟩
 ·
  refine ((dW.calls A c l dn fu fa 6 _ (H.out.came HRp.out) HCp.out (by rw [dW.f, if_neg hok])).mono ?_)
  rintro e qcg ⟨rfl, hb_⟩
  have n_ : aC (Sep w qcg [box gz [.slice none 0 0, .bool false, .int .i64 0, .int .i64 0, .int .i64 0, .int .u64 0, .int .u64 0, .bool false] 30, box gd [.slice A l.length c, .bool dn, .int .i64 fu, .int .i64 fa] 27]) := ⟨H.out.step hb_⟩
  clear H c_z c_d
  have H := n_
  clear n_
  have c_z := H.out.cell (g := gz) aP
  have c_d := H.out.cell (g := gd) mem1
  clear hb_
  have HOK := aC.mk hok
  clear hok
  have hOV : O = (Lz, [], 6) := by rw [HO.out, iZ, if_neg HOK.out]
  clear HO
  clear c_z c_d
  have c_z := H.out.cell (g := gz) aP
  have z_z := H.out.frozen (g := gz) aP
  have c_d := H.out.cell (g := gd) mem1
  go_wp2_with (first
 |((with_reducible refine aV (t := 30) (p := 4) rfl ?_);
   refine bH (rs1 := [box gz [.slice none 0 0, .bool false, .int .i64 0, .int .i64 0, .int .i64 0, .int .u64 0, .int .u64 0, .bool false] 30, box gd [.slice A l.length c, .bool dn, .int .i64 fu, .int .i64 fa] 27]) rfl (t := 30) (p := 4) rfl rfl ?hr (H1 := (Sep.set0 (Sep.set0 (Sep.set0 (Sep.set0 (Sep.set0 (Sep.set0 (Sep.set0 (Sep.set0 H.out 0 (.slice none 0 0) rfl) 1 (.bool false) rfl) 2 (.int .i64 0) rfl) 3 (.int .i64 0) rfl) 4 (.int .i64 0) rfl) 5 (.int .u64 0) rfl) 6 (.int .u64 0) rfl) 7 (.bool false) rfl)) ?_;
   (case hr => first | (go_simp; done) | (go_simp; rfl));
   intro qeq n_;
   clear H c_z z_z c_d;
   have H := n_;
   clear n_;
   have c_z := H.out.cell (g := gz) aP;
   have z_z := H.out.frozen (g := gz) aP;
   have c_d := H.out.cell (g := gd) mem1)
 |fail)
  refine bodyPost_ret (dH (rs := [.cell 4 30, .tmp 5, .tmp 6]) rfl (by simp) (.cell gz 30 _ _ _ rfl (H.out.jF (g := gz) aP) Tryz.underlying30 rfl info30 (.tmp (.tmp .nil)))) rfl ?_
  subst hOV
  exact ⟨none, 0, none, 0, rfl, ⟨Sep.eU (Sep.eU (Sep.eG (Sep.drop1 H.out)))⟩⟩
end Go.Proofs.U
namespace Go.Proofs.U
open Go.RowKit Go.Proofs.aA.aK Go.Proofs.aA.aW Go.Proofs.aA.aX
def Good (l : List S67) (s : ByteArray) (l' : List S67) : Prop := bI l' = true ∧ ∀ x : S67, x.f0.toList ≠ s.toList → (x ∈ l' ↔ x ∈ l)
theorem JU {l : List S67} (h : bI l = true) {s : ByteArray} {x y : S67} (hx : l[bsOf l s]? = some x) (e : x.f0.toList = s.toList) (hn : y.f0 = x.f0) (hy : QC y) : Good l s (l.set (bsOf l s) y) :=
 ⟨Y9 h hx hn hy, fun z hz => mem_set h hx hn (by rw [e]; exact hz)⟩
theorem wZ {l : List S67} {s : ByteArray} (h : bI l = true) (hrf : rfC s l.length (bsOf l s) (lD l s (bsOf l s)) = 0) : Good l s (l.take (bsOf l s) ++ [(⟨s, ⟨#[]⟩, 0⟩ : S67)] ++ l.drop (bsOf l s)) := by
 unfold rfC at hrf
 split at hrf
 ·cases hrf
 rename_i h1
 split at hrf
 ·cases hrf
 rename_i h2
 split at hrf
 ·cases hrf
 rename_i h3
 simp only [not_or] at h1
 refine ⟨ZA h (by simpa using h2) ⟨show s.size ≤ 4096 by omega, show (⟨#[]⟩ : ByteArray).size ≤ 262144 by decide, show (0 : Int) ≤ 0 by decide, show (0 : Int) ≤ ((⟨#[]⟩ : ByteArray).size : Int) by decide⟩ rfl h1.1 (by omega), fun x hx => ?_⟩
 rw [GX]
 constructor
 ·rintro (rfl | g)
  ·exact absurd rfl hx
  ·exact g
 ·exact .inr
theorem VY {l : List S67} {s : ByteArray} (h : bI l = true) (hi : lD l s (bsOf l s) = true) : ∃ x, l[bsOf l s]? = some x ∧ x.f0.toList = s.toList := (wO _ _ _).1 hi
theorem xA {l : List S67} {s : ByteArray} (h : bI l = true) (d : ByteArray) (hrf : rfW d l (bsOf l s) (lD l s (bsOf l s)) = 0) : Good l s (l.set (bsOf l s : Int).toNat ⟨(dV l (bsOf l s)).f0, (dV l (bsOf l s)).f1 ++ d, (dV l (bsOf l s)).f2⟩) := by
 unfold rfW at hrf
 split at hrf
 ·rename_i hi
  obtain ⟨x, hx, e⟩ := VY h hi
  rw [gZ hx] at hrf
  split at hrf
  ·cases hrf
  rename_i hs
  simp only [Int.toNat_natCast, gZ hx]
  have hok := rM h hx
  exact JU h hx e rfl ⟨hok.1, by simp only [ByteArray.size_append]; omega, hok.2.2.1, by simp only [ByteArray.size_append]; have := hok.2.2.2; omega⟩
 ·cases hrf
theorem EF {l : List S67} {s : ByteArray} (h : bI l = true) (hi : lD l s (bsOf l s) = true) : Good l s (l.set (bsOf l s : Int).toNat ⟨(dV l (bsOf l s)).f0, (dV l (bsOf l s)).f1, ((dV l (bsOf l s)).f1.size : Int)⟩) := by
 obtain ⟨x, hx, e⟩ := VY h hi
 simp only [Int.toNat_natCast, gZ hx]
 have hok := rM h hx
 exact JU h hx e rfl ⟨hok.1, hok.2.1, by simp, Int.le_refl _⟩
theorem qbb {l : List S67} {s : ByteArray} (h : bI l = true) (n : Int) (hrf : rfT n l (bsOf l s) (lD l s (bsOf l s)) = 0) : Good l s (l.set (bsOf l s : Int).toNat ⟨(dV l (bsOf l s)).f0, (dV l (bsOf l s)).f1.extract 0 n.toNat, n⟩) := by
 unfold rfT at hrf
 split at hrf
 ·rename_i hi
  obtain ⟨x, hx, e⟩ := VY h hi
  rw [gZ hx] at hrf
  split at hrf
  ·cases hrf
  rename_i hs
  simp only [Int.toNat_natCast, gZ hx]
  have hok := rM h hx
  refine JU h hx e rfl ⟨hok.1, ?_, show 0 ≤ n by omega, ?_⟩
  ·simp only [ByteArray.size_extract]; omega
  ·simp only [ByteArray.size_extract]; omega
 ·cases hrf
theorem QY {l : List S67} {s : ByteArray} (h : bI l = true) (hi : lD l s (bsOf l s) = true) : Good l s (l.take (bsOf l s : Int).toNat ++ l.drop ((bsOf l s : Int).toNat + 1)) := by
 obtain ⟨x, hx, e⟩ := VY h hi
 simp only [Int.toNat_natCast]
 refine ⟨rO h _, fun z hz => ?_⟩
 rw [qbY h hx, e]
 exact ⟨fun g => g.1, fun g => ⟨g, hz⟩⟩
end Go.Proofs.U
namespace Go.Proofs.U
open Go.RowKit Go.Proofs.aA.aK Go.Proofs.aA.aW Go.Proofs.aA.aX Go.Proofs.Sp Go.Proofs.gB
theorem xB (n : Int) (w : World) : Calls Tryz.prog 77 #[.bool true, .int .i64 n] w fun e w' => e = .returned (.tuple #[]) ∧ w' = w := by
 go_enter Tryz.func77, Tryz.ntmps77
 go_wp2
 go_end0
 exact ⟨rfl, rfl⟩
theorem C9 (n : Int) (w : World) : Calls Tryz.prog 77 #[.bool false, .int .i64 n] w fun e w' => e = .panicked [{ v := .iface 34 (.int .i64 n), recovered := false }] ∧ w' = w := by
 go_enter Tryz.func77, Tryz.ntmps77
 go_wp2
 exact ⟨rfl, rfl, rfl⟩
def nameB (n : Nat) : ByteArray := ⟨(hexN 16 n).toArray⟩
noncomputable def vM (l : List S67) : Option Pl := (aN l).getLast?
noncomputable def oN (l : List S67) : ByteArray := match vM l with | none => ⟨#[]⟩ | some p => p.1.f0
def isFull (L : Lg) (k : Nat) : Prop := match vM L.l with | none => True | some p => L.size ≤ (p.1.f1.size : Int) ∨ 262144 < p.1.f1.size + k
noncomputable def iK (L : Lg) (k : Nat) : Lg × Int := open Classical in if isFull L k then (chg L (jW L.l L.dn L.fu L.fa (nameB L.nx.toNat)), (jW L.l L.dn L.fu L.fa (nameB L.nx.toNat)).2.2.2.2) else (L, 0)
def fZ (L : Lg) (nm s : ByteArray) : Lg × Int := (chg L (iU L.l L.dn L.fu L.fa nm s), (iU L.l L.dn L.fu L.fa nm s).2.2.2.2)
def stepS (L : Lg) (nm : ByteArray) : Lg × Int := (chg L (qY L.l L.dn L.fu L.fa nm), (qY L.l L.dn L.fu L.fa nm).2.2.2.2)
noncomputable def pI (L : Lg) (s : ByteArray) : Lg × Int :=
 if (fZ L (oN L.l) s).2 = 0 then
  if (stepS (fZ L (oN L.l) s).1 (oN L.l)).2 = 0 then ({ (stepS (fZ L (oN L.l) s).1 (oN L.l)).1 with nx := L.nx + 1 }, 0)
  else stepS (fZ L (oN L.l) s).1 (oN L.l)
 else fZ L (oN L.l) s
noncomputable def jG (L : Lg) (d : ByteArray) : Lg × Int :=
 if L.br = true then (L, 6)
 else if 65536 < d.size then (L, 4)
 else if 4611686018427387904 ≤ L.nx then (L, 2)
 else if (iK L (fV L.nx d).size).2 = 0 then pI (iK L (fV L.nx d).size).1 (fV L.nx d)
 else iK L (fV L.nx d).size
theorem FD (n : Nat) (d : ByteArray) : (fV (n : Int) d).size = 16 + d.size := by
 rw [← dK, sU, iL, dK]
theorem EG {l : List S67} (h : bI l = true) : ∀ x ∈ l, x.f0.size ≤ 65536 := fun x hx => by
 have h2 := (((jM l).1 h).2.1 x hx).1
 omega
theorem TR {l : List S67} {dn : Bool} {fu fa : Int} {s : ByteArray} {wr : Bool} {rf : Int → Bool → Int} {df : Int → List S67} (h : (dF l dn fu fa s wr rf df).2.2.2.2 = 0) :
  bI l = true ∧ dn = false ∧ rf (bsOf l s) (lD l s (bsOf l s)) = 0 ∧ (dF l dn fu fa s wr rf df).1 = df (bsOf l s) := by
 unfold dF at h ⊢
 split at h
 ·rename_i hr
  split at h
  ·cases h
  ·rename_i hd
   split at h
   ·rename_i hrf
    split at h
    ·cases h
    ·rename_i hf
     split at h
     ·cases h
     ·rename_i hu
      refine ⟨hr, by simpa using hd, hrf, ?_⟩
      rw [if_pos hr, if_neg hd, if_pos hrf, if_neg hf, if_neg hu]
   ·rename_i hrf
    exact absurd h hrf
 ·cases h
theorem ZM {l : List S67} {dn : Bool} {fu fa : Int} {n : Nat} {D : JM} (hD : D = jW l dn fu fa (nameB n)) (hz : D.2.2.2.2 = 0) (hn : n ≤ most) : bI D.1 = true ∧ aN D.1 ≠ [] ∧ True := by
 subst hD
 obtain ⟨h1, h2, h3, h4⟩ := TR hz
 have h5 : (jW l dn fu fa (nameB n)).1 = l.take (bsOf l (nameB n)) ++ [(⟨nameB n, ⟨#[]⟩, 0⟩ : S67)] ++ l.drop (bsOf l (nameB n)) := by
  rw [jW, h4]
  simp
 rw [h5]
 refine ⟨(wZ h1 h3).1, fun h => ?_, trivial⟩
 have hm : ((⟨nameB n, ⟨#[]⟩, 0⟩ : S67), n) ∈ aN (l.take (bsOf l (nameB n)) ++ [(⟨nameB n, ⟨#[]⟩, 0⟩ : S67)] ++ l.drop (bsOf l (nameB n))) := by
  refine List.mem_filterMap.2 ⟨_, (GX _ _ _).2 (.inl rfl), ?_⟩
  have : numOf (nameB n) = some n := lU.2 ⟨hn, (pR _).symm⟩
  show (numOf (nameB n)).map _ = _
  rw [this]
  rfl
 rw [h] at hm
 cases hm
set_option maxHeartbeats 8000000 in
theorem ZN (b : World) (gl g0 g1 gv : Nat) (l : List S67) (dn : Bool) (fu fa size fr : Int) (n : Nat) (br : Bool) (d : ByteArray) (A0 : Option Addr) (c0 : Nat) (hok : bI l = true) (hG : Gl b) (hn : n < 18446744073709551616) (hs0 : 1 ≤ size) (hs1 : size ≤ 262144) :
  LK b gl 76 #[.pointer (some ⟨g0, 0, none⟩), .pointer (some ⟨g1, 0, none⟩), .pointer (some ⟨gv, 0, none⟩)] ⟨l, dn, fu, fa, size, fr, (n : Int), br⟩ [box g0 [.slice A0 l.length c0, .bool dn, .int .i64 fu, .int .i64 fa, .int .i64 size, .int .u64 fr, .int .u64 (n : Int), .bool br] 30, box g1 [.string d] 9, box gv [.pointer (some ⟨gl, 0, none⟩)] 131] (jG ⟨l, dn, fu, fa, size, fr, (n : Int), br⟩ d).1 (jG ⟨l, dn, fu, fa, size, fr, (n : Int), br⟩ d).2 := by
 intro A c w ts H0
 have HOK := aC.mk hok
 have HG := aC.mk hG
 have hlen : l.length ≤ 64 := jZ hok
 clear hok hG
 obtain ⟨R, hR⟩ : ∃ R, R = jG ⟨l, dn, fu, fa, size, fr, (n : Int), br⟩ d := ⟨_, rfl⟩
 rw [← hR]
 have HR := aC.mk hR
 clear hR
 have H : aC (Sep b w (box gl [.slice A l.length c, .bool dn, .int .i64 fu, .int .i64 fa, .int .i64 size, .int .u64 fr, .int .u64 (n : Int), .bool br] 134 :: row k67 67 (.slice A (l).length c) l :: box g0 [.slice A0 l.length c0, .bool dn, .int .i64 fu, .int .i64 fa, .int .i64 size, .int .u64 fr, .int .u64 (n : Int), .bool br] 30 :: box g1 [.string d] 9 :: box gv [.pointer (some ⟨gl, 0, none⟩)] 131 :: ts)) := H0
 clear H0
 have c_l := H.out.cell (g := gl) aP
 have z_l := H.out.frozen (g := gl) aP
 have c_m := H.out.cell (g := g0) mem2
 have c_t := H.out.cell (g := g1) mem3
 have c_v := H.out.cell (g := gv) bT
 go_enter Tryz.func76, Tryz.ntmps76
 cases br with
 | true =>
  go_wp2_with fail
  refine (C9 6 _).mono ?_
  rintro e w_ ⟨rfl, rfl⟩
  have hV : R = (⟨l, dn, fu, fa, size, fr, (n : Int), true⟩, 6) := by rw [HR.out, jG, if_pos rfl]
  show _ ∧ _
  rw [hV]
  exact ⟨rfl, .inr ⟨show (6 : Int) ≠ 0 by decide, rfl⟩, A, c, H⟩
 | false =>
  go_wp2_with fail
  refine (xB 6 _).mono ?_
  rintro e w_ ⟨rfl, rfl⟩
  by_cases hd : 65536 < d.size
  ·
   have hq : decide ((d.size : Int) ≤ 65536) = false := decide_eq_false (by omega)
   go_wp2_with fail
   try simp only [hq]
   refine (C9 4 _).mono ?_
   rintro e w_ ⟨rfl, rfl⟩
   have hV : R = (⟨l, dn, fu, fa, size, fr, (n : Int), false⟩, 4) := by rw [HR.out, jG, if_neg (by simp), if_pos hd]
   show _ ∧ _
   rw [hV]
   exact ⟨rfl, .inr ⟨show (4 : Int) ≠ 0 by decide, rfl⟩, A, c, H⟩
  ·
   have hq : decide ((d.size : Int) ≤ 65536) = true := decide_eq_true (by omega)
   go_wp2_with fail
   try simp only [hq]
   refine (xB 4 _).mono ?_
   rintro e w_ ⟨rfl, rfl⟩
   by_cases hx : 4611686018427387904 ≤ n
   ·
    have hq2 : decide ((n : Int) < 4611686018427387904) = false := decide_eq_false (by omega)
    go_wp2_with fail
    try simp only [hq2]
    refine (C9 2 _).mono ?_
    rintro e w_ ⟨rfl, rfl⟩
    have hV : R = (⟨l, dn, fu, fa, size, fr, (n : Int), false⟩, 2) := by rw [HR.out, jG, if_neg (by simp), if_neg hd, if_pos (by show (4611686018427387904 : Int) ≤ (n : Int); omega)]
    show _ ∧ _
    rw [hV]
    exact ⟨rfl, .inr ⟨show (2 : Int) ≠ 0 by decide, rfl⟩, A, c, H⟩
   ·
    have hq2 : decide ((n : Int) < 4611686018427387904) = true := decide_eq_true (by omega)
    go_wp2_with fail
    try simp only [hq2]
    refine (xB 2 _).mono ?_
    rintro e w_ ⟨rfl, rfl⟩
    obtain ⟨s, hs⟩ : ∃ s, s = fV (n : Int) d := ⟨_, rfl⟩
    have FM := aC.mk (fun w => hs ▸ KY (n : Int) d w (by omega) (by omega) (by omega))
    have hss : s.size = 16 + d.size := by rw [hs, FD]
    have hRV : R = (if (iK ⟨l, dn, fu, fa, size, fr, (n : Int), false⟩ s.size).2 = 0 then pI (iK ⟨l, dn, fu, fa, size, fr, (n : Int), false⟩ s.size).1 s else iK ⟨l, dn, fu, fa, size, fr, (n : Int), false⟩ s.size) := by
     rw [HR.out, jG, if_neg (by simp), if_neg hd, if_neg (by show ¬ (4611686018427387904 : Int) ≤ (n : Int); omega), ← hs]
    have HRV := aC.mk hRV
    clear HR hs hRV hq hq2
    go_wp2_with fail
    refine (FM.out _).mono ?_
    rintro e wd1 ⟨rfl, hb_⟩
    have n_ : aC (Sep b wd1 (box gl [.slice A l.length c, .bool dn, .int .i64 fu, .int .i64 fa, .int .i64 size, .int .u64 fr, .int .u64 (n : Int), .bool false] 134 :: row k67 67 (.slice A (l).length c) l :: box g0 [.slice A0 l.length c0, .bool dn, .int .i64 fu, .int .i64 fa, .int .i64 size, .int .u64 fr, .int .u64 (n : Int), .bool false] 30 :: box g1 [.string d] 9 :: box gv [.pointer (some ⟨gl, 0, none⟩)] 131 :: ts)) := ⟨H.out.step hb_⟩
    clear H c_l z_l c_m c_t c_v
    have H := n_
    clear n_
    have c_l := H.out.cell (g := gl) aP
    have z_l := H.out.frozen (g := gl) aP
    have c_m := H.out.cell (g := g0) mem2
    have c_t := H.out.cell (g := g1) mem3
    have c_v := H.out.cell (g := gv) bT
    clear hb_
    go_wp2_with fail
    obtain ⟨ps, hps⟩ : ∃ ps, ps = aN l := ⟨_, rfl⟩
    have HPS := aC.mk hps
    have PA := aC.mk (fun A c w hr hc hG => places_any A c l dn fu fa w hr hc hlen (EG HOK.out) hG)
    rw [← hps] at PA
    clear hps
    refine ((PA.out A c _ (H.out.reads mem1).2.2 (H.out.reads mem1).2.1 (HG.out.below H.out.below)).mono ?_)
    rintro e wd2 ⟨v_, rfl, ho_, hb_⟩
    obtain ⟨Aq, cq, eo_⟩ := Kd.dZ ho_
    subst eo_
    have n_ : aC (Sep b wd2 (row dX 139 (.slice Aq (ps).length cq) ps :: box gl [.slice A l.length c, .bool dn, .int .i64 fu, .int .i64 fa, .int .i64 size, .int .u64 fr, .int .u64 (n : Int), .bool false] 134 :: row k67 67 (.slice A (l).length c) l :: box g0 [.slice A0 l.length c0, .bool dn, .int .i64 fu, .int .i64 fa, .int .i64 size, .int .u64 fr, .int .u64 (n : Int), .bool false] 30 :: box g1 [.string d] 9 :: box gv [.pointer (some ⟨gl, 0, none⟩)] 131 :: ts)) := ⟨Sep.jQ H.out hb_ ho_ uK⟩
    clear H c_l z_l c_m c_t c_v
    have H := n_
    clear n_
    have c_l := H.out.cell (g := gl) mem1
    have z_l := H.out.frozen (g := gl) mem1
    have c_m := H.out.cell (g := g0) mem3
    have c_t := H.out.cell (g := g1) bT
    have c_v := H.out.cell (g := gv) dM
    clear ho_ hb_
    obtain ⟨full, hfu⟩ : ∃ full : Bool, (full = true ↔ isFull ⟨l, dn, fu, fa, size, fr, (n : Int), false⟩ s.size) := by
     by_cases h : isFull ⟨l, dn, fu, fa, size, fr, (n : Int), false⟩ s.size
     ·exact ⟨true, by simp [h]⟩
     ·exact ⟨false, by simp [h]⟩
    have HFU := aC.mk hfu
    clear hfu
    have hlp : vM l = ps.getLast? := by rw [vM, HPS.out]
    have HLP := aC.mk hlp
    have hs5 : s.size ≤ 65552 := by omega
    clear hlp hss
    go_upto_region 6 with fail
    go_cut [59] (fun v59 wx => v59 = .bool full ∧ aC (Sep b wx (row dX 139 (.slice Aq (ps).length cq) ps :: box gl [.slice A l.length c, .bool dn, .int .i64 fu, .int .i64 fa, .int .i64 size, .int .u64 fr, .int .u64 (n : Int), .bool false] 134 :: row k67 67 (.slice A (l).length c) l :: box g0 [.slice A0 l.length c0, .bool dn, .int .i64 fu, .int .i64 fa, .int .i64 size, .int .u64 fr, .int .u64 (n : Int), .bool false] 30 :: box g1 [.string d] 9 :: box gv [.pointer (some ⟨gl, 0, none⟩)] 131 :: ts)))
    case first =>
     cases hgl : ps.getLast? with
     | none =>
      have q1 : ((ps.length : Int) == 0) = true := by rw [List.getLast?_eq_none_iff.1 hgl]; rfl
      have hf : full = true := HFU.out.2 (by rw [isFull, HLP.out, hgl]; trivial)
      subst hf
      clear hgl
      go_quiet (fail)
      go_wp2_with fail
      go_meet
      exact ⟨rfl, ⟨Sep.drewN H.out _⟩⟩
     | some p =>
      have hgp : ps[ps.length - 1]? = some p := by rw [← List.getLast?_eq_getElem?]; exact hgl
      have hp1 : 0 < ps.length := by
       cases ps with
       | nil => cases hgl
       | cons _ _ => simp
      have q1 : ((ps.length : Int) == 0) = false := by
       rw [beq_eq_false_iff_ne]
       omega
      obtain ⟨aq, e1⟩ := D9 (H.out.reads (A := Aq) aP).2.2 (by omega)
      subst e1
      obtain ⟨h0, h1, h2, h3⟩ := sV (H.out.reads (A := some aq) aP).2.2 hgp
      have qdI : aC (isFull ⟨l, dn, fu, fa, size, fr, (n : Int), false⟩ s.size ↔ (size ≤ (p.1.f1.size : Int) ∨ 262144 < p.1.f1.size + s.size)) := ⟨by rw [isFull, HLP.out, hgl]⟩
      have hps1 : p.1.f1.size ≤ 262144 := (oV HOK.out HPS.out (List.mem_of_getElem? hgp)).1
      clear hgl hgp
      have hpl : ps.length ≤ 64 := by
       have := oM l
       rw [HPS.out]
       omega
      have hp2 : (0 : Int) ≤ (ps.length : Int) - 1 := by omega
      have hp3 : (ps.length : Int) - 1 < (ps.length : Int) := by omega
      have hpw : IntKind.i64.wrap ((ps.length : Int) - 1) = (ps.length : Int) - 1 := by rw [IntKind.wrap_i64]; omega
      by_cases hb1 : size ≤ (p.1.f1.size : Int)
      ·have hf : full = true := HFU.out.2 (qdI.out.2 (.inl hb1))
       subst hf
       have q2 := decide_eq_true hb1
       go_quiet (fail)
       go_wp2_with fail
       go_meet
       exact ⟨rfl, ⟨Sep.drewN H.out _⟩⟩
      ·have q2 := decide_eq_false hb1
       have qir : IntKind.i64.wrap ((p.1.f1.size : Int) + (s.size : Int)) = (p.1.f1.size : Int) + (s.size : Int) := by rw [IntKind.wrap_i64]; omega
       by_cases hb2 : 262144 < p.1.f1.size + s.size
       ·have hf : full = true := HFU.out.2 (qdI.out.2 (.inr hb2))
        subst hf
        have q3 : decide ((262144 : Int) < (p.1.f1.size : Int) + (s.size : Int)) = true := decide_eq_true (by omega)
        go_quiet (fail)
        go_wp2_with fail
        go_meet
        exact ⟨rfl, ⟨Sep.drewN H.out _⟩⟩
       ·have hf : full = false := by
         cases full with
         | false => rfl
         | true =>
          rcases qdI.out.1 (HFU.out.1 rfl) with h | h
          ·exact absurd h hb1
          ·exact absurd h hb2
        subst hf
        have q3 : decide ((262144 : Int) < (p.1.f1.size : Int) + (s.size : Int)) = false := decide_eq_false (by omega)
        go_quiet (fail)
        go_wp2_with fail
        go_meet
        exact ⟨rfl, ⟨Sep.drewN H.out _⟩⟩
    case rest =>
     obtain ⟨rfl, n_⟩ := hcut
     clear H c_l z_l c_m c_t c_v
     have H := n_
     clear n_
     have c_l := H.out.cell (g := gl) mem1
     have c_m := H.out.cell (g := g0) mem3
     have c_t := H.out.cell (g := g1) bT
     have c_v := H.out.cell (g := gv) dM
     go_upto_if 59 with fail
     go_cut [4] (fun v4 wx => ∃ (L1 : Lg) (A1 Aq1 : Option Addr) (c1 cq1 : Nat), v4 = .slice Aq1 (aN L1.l).length cq1 ∧ aC (aN L1.l ≠ []) ∧ aC (bI L1.l = true) ∧ aC (iK ⟨l, dn, fu, fa, size, fr, (n : Int), false⟩ s.size = (L1, 0)) ∧ L1.nx = (n : Int) ∧ aC (Sep b wx (row dX 139 (.slice Aq1 ((aN L1.l)).length cq1) ((aN L1.l)) :: box gl [.slice A1 L1.l.length c1, .bool L1.dn, .int .i64 L1.fu, .int .i64 L1.fa, .int .i64 L1.size, .int .u64 L1.fr, .int .u64 L1.nx, .bool L1.br] 134 :: row k67 67 (.slice A1 (L1.l).length c1) L1.l :: box g0 [.slice A0 l.length c0, .bool dn, .int .i64 fu, .int .i64 fa, .int .i64 size, .int .u64 fr, .int .u64 (n : Int), .bool false] 30 :: box g1 [.string d] 9 :: box gv [.pointer (some ⟨gl, 0, none⟩)] 131 :: ts)))
     case first =>
      cases full with
      | false =>
       have hSC : iK ⟨l, dn, fu, fa, size, fr, (n : Int), false⟩ s.size = (⟨l, dn, fu, fa, size, fr, (n : Int), false⟩, 0) := by rw [iK, if_neg (fun h => by have := HFU.out.2 h; cases this)]
       have hne : ps ≠ [] := by
        intro h
        have := HFU.out.2 (by rw [isFull, HLP.out, h]; trivial)
        cases this
       go_wp2_with fail
       go_meet
       have hne2 : aN l ≠ [] := by rw [← HPS.out]; exact hne
       have H2 := H.out
       rw [HPS.out] at H2
       refine ⟨⟨l, dn, fu, fa, size, fr, (n : Int), false⟩, A, Aq, c, cq, ?_, ⟨hne2⟩, HOK, ⟨hSC⟩, rfl, ⟨H2⟩⟩
       rw [HPS.out]
      | true =>
       obtain ⟨D, hD⟩ : ∃ D, D = jW l dn fu fa (nameB n) := ⟨_, rfl⟩
       have HD := aC.mk hD
       have hSC : iK ⟨l, dn, fu, fa, size, fr, (n : Int), false⟩ s.size = (chg ⟨l, dn, fu, fa, size, fr, (n : Int), false⟩ D, D.2.2.2.2) := by rw [iK, if_pos (HFU.out.1 rfl), hD]; simp
       have HSC := aC.mk hSC
       clear hD hSC
       go_upto_region 7 with fail
       refine fO (n := 13) (S := fun w' => (∀ j : Nat, w'.cell? ⟨gv, j, none⟩ = [.pointer (some ⟨gl, 0, none⟩)][j]?) ∧ (∀ j : Nat, w'.cell? ⟨gl, j, none⟩ = [.slice A l.length c, .bool dn, .int .i64 fu, .int .i64 fa, .int .i64 size, .int .u64 fr, .int .u64 (n : Int), .bool false][j]?) ∧ (∀ j : Nat, w'.cell? ⟨g0, j, none⟩ = [.slice A0 l.length c0, .bool dn, .int .i64 fu, .int .i64 fa, .int .i64 size, .int .u64 fr, .int .u64 (n : Int), .bool false][j]?) ∧ Sp.Sep b w' (row dX 139 (.slice Aq (ps).length cq) ps :: box gl [.slice A l.length c, .bool dn, .int .i64 fu, .int .i64 fa, .int .i64 size, .int .u64 fr, .int .u64 (n : Int), .bool false] 134 :: row k67 67 (.slice A (l).length c) l :: box g0 [.slice A0 l.length c0, .bool dn, .int .i64 fu, .int .i64 fa, .int .i64 size, .int .u64 fr, .int .u64 (n : Int), .bool false] 30 :: box g1 [.string d] 9 :: box gv [.pointer (some ⟨gl, 0, none⟩)] 131 :: ts)) (ds := [12]) #[false, false, false, false, false, false, false, false, false, false, false, false, false] (by kernel_rfl) rfl rfl ⟨(fun j => ((Sep.drew H.out)).cell (g := gv) dM j), (fun j => ((Sep.drew H.out)).cell (g := gl) mem1 j), (fun j => ((Sep.drew H.out)).cell (g := g0) mem3 j), (Sep.drew H.out)⟩ (fun hHeld => ?_)
       refine puS (i := 6) (N := some 66) (v := ?_) (a' := ?_) rfl rfl (by kernel_rfl) (fun _ _ _ h => h) (Or.inl ⟨by rfl, ?_⟩) ?_ ?_
       rotate_left
       ·intro w'
        go_simp
        with_reducible rfl
       rotate_left
       ·simp only [Act.put, zA, zZ, zS, aI, aJ]
        rfl
       refine tkS (i := 0) (N := some 60) (v := ?_) (a' := ?_) rfl rfl (by kernel_rfl) (fun _ _ _ h => h) (Or.inl ⟨by rfl, ?_⟩) hHeld ?_ ?_
       rotate_left
       ·rintro w' ⟨s0, s1, s2, s3⟩
        go_simp
        with_reducible rfl
       rotate_left
       ·simp only [Act.put, zA, zZ, zS, aI, aJ]
        rfl
       refine tkS (i := 1) (N := some 61) (v := ?_) (a' := ?_) rfl rfl (by kernel_rfl) (fun _ _ _ h => h) (Or.inl ⟨by rfl, ?_⟩) hHeld ?_ ?_
       rotate_left
       ·rintro w' ⟨s0, s1, s2, s3⟩
        go_simp
        with_reducible rfl
       rotate_left
       ·simp only [Act.put, zA, zZ, zS, aI, aJ]
        rfl
       refine puS (i := 2) (N := some 62) (v := ?_) (a' := ?_) rfl rfl (by kernel_rfl) (fun _ _ _ h => h) (Or.inl ⟨by rfl, ?_⟩) ?_ ?_
       rotate_left
       ·intro w'
        go_simp
        with_reducible rfl
       rotate_left
       ·simp only [Act.put, zA, zZ, zS, aI, aJ]
        rfl
       refine puS (i := 3) (N := some 63) (v := ?_) (a' := ?_) rfl rfl (by kernel_rfl) (fun _ _ _ h => h) (Or.inl ⟨by rfl, ?_⟩) ?_ ?_
       rotate_left
       ·intro w'
        go_simp
        with_reducible rfl
       rotate_left
       ·simp only [Act.put, zA, zZ, zS, aI, aJ]
        rfl
       refine puS (i := 4) (N := some 64) (v := ?_) (a' := ?_) rfl rfl (by kernel_rfl) (fun _ _ _ h => h) (Or.inl ⟨by rfl, ?_⟩) ?_ ?_
       rotate_left
       ·intro w'
        go_simp
        with_reducible rfl
       rotate_left
       ·simp only [Act.put, zA, zZ, zS, aI, aJ]
        rfl
       refine tkS (i := 5) (N := some 65) (v := ?_) (a' := ?_) rfl rfl (by kernel_rfl) (fun _ _ _ h => h) (Or.inl ⟨by rfl, ?_⟩) hHeld ?_ ?_
       rotate_left
       ·rintro w' ⟨s0, s1, s2, s3⟩
        go_simp
        with_reducible rfl
       rotate_left
       ·simp only [Act.put, zA, zZ, zS, aI, aJ]
        rfl
       refine tkS (i := 7) (N := some 67) (v := ?_) (a' := ?_) rfl rfl (by kernel_rfl) (fun _ _ _ h => h) (Or.inl ⟨by rfl, ?_⟩) hHeld ?_ ?_
       rotate_left
       ·rintro w' ⟨s0, s1, s2, s3⟩
        go_simp
        with_reducible rfl
       rotate_left
       ·simp only [Act.put, zA, zZ, zS, aI, aJ]
        rfl
       refine onS (i := 8) (N := some 68) rfl rfl (by kernel_rfl) (by decide) (fun K hK => ?_)
       refine oC Tryz.func81 (by kernel_rfl) rfl #[.int .u64 (n : Int)] (by rfl) rfl rfl (by simp only [List.map_toArray, List.map_cons, List.map_nil]; rfl) ?_
       with_reducible refine (name_any n _ hn (HG.out.below (Sep.below hHeld.2.2.2))).mono ?_
       rintro e w3 ⟨s_, rfl, hb_, hs_⟩
       have e_s : s_ = nameB n := qE (hs_.trans (pR _).symm)
       subst e_s
       refine ⟨_, rfl, ?_⟩
       refine hK.out _ _ ⟨(fun j => ((Sep.step hHeld.2.2.2 hb_)).cell (g := gv) dM j), (fun j => ((Sep.step hHeld.2.2.2 hb_)).cell (g := gl) mem1 j), (fun j => ((Sep.step hHeld.2.2.2 hb_)).cell (g := g0) mem3 j), (Sep.step hHeld.2.2.2 hb_)⟩ (fun hHeld => ?_)
       clear hK K
       refine fE (a' := ?_) ?_ ?_
       rotate_left
       ·show Act.put _ (some 68) _ = _
        simp only [Act.put, zA, zZ, zS, aI, aJ]
        rfl
       refine onS (i := 9) (N := some 69) rfl rfl (by kernel_rfl) (by decide) (fun K hK => ?_)
       refine oC Tryz.func80 (by kernel_rfl) rfl #[.agg #[.slice A l.length c, .bool dn, .int .i64 fu, .int .i64 fa], .string (nameB n)] (by rfl) rfl rfl (by simp only [List.map_toArray, List.map_cons, List.map_nil]; rfl) ?_
       with_reducible refine (qL.calls A c l dn fu fa (nameB n) D.1 D.2.1 D.2.2.1 D.2.2.2.1 D.2.2.2.2 _ (Sep.reads hHeld.2.2.2 mem2).2.2 (Sep.reads hHeld.2.2.2 mem2).2.1 (by rw [I7, ← HD.out])).mono ?_
       rintro e w5 ⟨v_, rfl, ho_, tX⟩
       obtain ⟨A3, c3, eo_⟩ := Kd.dZ ho_
       subst eo_
       have HN3 := aC.mk (Sep.jQ hHeld.2.2.2 tX ho_ o9)
       refine ⟨_, rfl, ?_⟩
       refine hK.out _ _ ⟨(fun j => ((Sep.step hHeld.2.2.2 tX)).cell (g := gv) dM j), (fun j => ((Sep.step hHeld.2.2.2 tX)).cell (g := gl) mem1 j), (fun j => ((Sep.step hHeld.2.2.2 tX)).cell (g := g0) mem3 j), (Sep.step hHeld.2.2.2 tX)⟩ (fun hHeld => ?_)
       clear hK K
       refine fE (a' := ?_) ?_ ?_
       rotate_left
       ·show Act.put _ (some 69) _ = _
        simp only [Act.put, zA, zZ, zS, aI, aJ]
        rfl
       refine puS (i := 10) (N := some 70) (v := ?_) (a' := ?_) rfl rfl (by kernel_rfl) (fun _ _ _ h => h) (Or.inl ⟨by rfl, ?_⟩) ?_ ?_
       rotate_left
       ·intro w'
        go_simp
        with_reducible rfl
       rotate_left
       ·simp only [Act.put, zA, zZ, zS, aI, aJ]
        rfl
       refine puS (i := 11) (N := some 71) (v := ?_) (a' := ?_) rfl rfl (by kernel_rfl) (fun _ _ _ h => h) (Or.inl ⟨by rfl, ?_⟩) ?_ ?_
       rotate_left
       ·intro w'
        go_simp
        with_reducible rfl
       rotate_left
       ·simp only [Act.put, zA, zZ, zS, aI, aJ]
        rfl
       refine laS (i := 12) (N := some 72) rfl rfl (by kernel_rfl) (by decide) (fun K hK => ?_)
       refine sD Tryz.func72 (by kernel_rfl) rfl #[.pointer (some ⟨gl, 0, none⟩), .agg #[.slice A3 D.1.length c3, .bool D.2.1, .int .i64 D.2.2.1, .int .i64 D.2.2.2.1], .int .i64 D.2.2.2.2] (by rfl) rfl rfl (by simp only [List.map_toArray, List.map_cons, List.map_nil]; rfl) ?_
       refine (pV gl A c ⟨l, dn, fu, fa, size, fr, (n : Int), false⟩ A3 c3 D (rs := lV A3 c3 D.1 :: (row dX 139 (.slice Aq (ps).length cq) ps :: row k67 67 (.slice A (l).length c) l :: box g0 [.slice A0 l.length c0, .bool dn, .int .i64 fu, .int .i64 fa, .int .i64 size, .int .u64 fr, .int .u64 (n : Int), .bool false] 30 :: box g1 [.string d] 9 :: box gv [.pointer (some ⟨gl, 0, none⟩)] 131 :: ts)) ⟨HN3.out.iY⟩).mono ?_
       rintro e w6 ⟨hE, H4⟩
       rcases hE with ⟨hz, rfl⟩ | ⟨hnz, rfl⟩
       rotate_left
       ·refine .inr ⟨_, rfl, ?_⟩
        have hV : R = (chg ⟨l, dn, fu, fa, size, fr, (n : Int), false⟩ D, D.2.2.2.2) := by rw [HRV.out, HSC.out, if_neg hnz]
        show _ ∧ _
        rw [hV]
        exact ⟨rfl, .inr ⟨hnz, rfl⟩, A3, c3, ⟨(Sep.drop2 (Sep.iJ H4.out))⟩⟩
       refine .inl ⟨_, rfl, ?_⟩
       refine hK.out _ _ ?_
       clear hK K
       refine fE (a' := ?_) ?_ ?_
       rotate_left
       ·show Act.put _ (some 72) _ = _
        simp only [Act.put, zA, zZ, zS, aI, aJ]
        rfl
       refine iT (by kernel_rfl) ?_
       clear c_l c_m c_t c_v H
       have H : aC (Sep b w6 (box gl [.slice A3 D.1.length c3, .bool D.2.1, .int .i64 D.2.2.1, .int .i64 D.2.2.2.1, .int .i64 size, .int .u64 fr, .int .u64 (n : Int), .bool (if D.2.2.2.2 = 0 then false else true)] 134 :: row k67 67 (.slice A3 (D.1).length c3) D.1 :: box g0 [.slice A0 l.length c0, .bool dn, .int .i64 fu, .int .i64 fa, .int .i64 size, .int .u64 fr, .int .u64 (n : Int), .bool false] 30 :: box g1 [.string d] 9 :: box gv [.pointer (some ⟨gl, 0, none⟩)] 131 :: ts)) := ⟨(Sep.drop2 (Sep.iJ H4.out))⟩
       clear H4 HN3
       have c_l := H.out.cell (g := gl) aP
       have c_m := H.out.cell (g := g0) mem2
       have c_t := H.out.cell (g := g1) mem3
       have c_v := H.out.cell (g := gv) bT
       obtain ⟨hc1, hc2, hc3⟩ := ZM (l := l) (dn := dn) (fu := fu) (fa := fa) (n := n) (D := D) HD.out hz (by unfold most; omega)
       have QZ := aC.mk hc1
       have qhg := aC.mk hc2
       have hlen1 : D.1.length ≤ 64 := jZ hc1
       clear hc1 hc2 hc3
       go_wp2_with fail
       refine ((places_any A3 c3 D.1 D.2.1 D.2.2.1 D.2.2.2.1 _ (H.out.reads mem1).2.2 (H.out.reads mem1).2.1 hlen1 (EG QZ.out) (HG.out.below H.out.below)).mono ?_)
       rintro e wd3 ⟨v_, rfl, ho_, hb_⟩
       obtain ⟨Aq, cq, eo_⟩ := Kd.dZ ho_
       subst eo_
       have n_ : aC (Sep b wd3 (row dX 139 (.slice Aq ((aN D.1)).length cq) ((aN D.1)) :: box gl [.slice A3 D.1.length c3, .bool D.2.1, .int .i64 D.2.2.1, .int .i64 D.2.2.2.1, .int .i64 size, .int .u64 fr, .int .u64 (n : Int), .bool (if D.2.2.2.2 = 0 then false else true)] 134 :: row k67 67 (.slice A3 (D.1).length c3) D.1 :: box g0 [.slice A0 l.length c0, .bool dn, .int .i64 fu, .int .i64 fa, .int .i64 size, .int .u64 fr, .int .u64 (n : Int), .bool false] 30 :: box g1 [.string d] 9 :: box gv [.pointer (some ⟨gl, 0, none⟩)] 131 :: ts)) := ⟨Sep.jQ H.out hb_ ho_ uK⟩
       clear H c_l c_m c_t c_v
       have H := n_
       clear n_
       have c_l := H.out.cell (g := gl) mem1
       have c_m := H.out.cell (g := g0) mem3
       have c_t := H.out.cell (g := g1) bT
       have c_v := H.out.cell (g := gv) dM
       clear ho_ hb_
       go_wp2_with fail
       go_meet
       refine ⟨chg ⟨l, dn, fu, fa, size, fr, (n : Int), false⟩ D, A3, Aq, c3, cq, rfl, qhg, QZ, ⟨by rw [HSC.out, hz]⟩, rfl, H⟩
     case rest =>
      obtain ⟨L1, A1, Aq1, c1, cq1, rfl, HNE, QZ, HSC, hnx, H1⟩ := hcut
      clear c_l c_m c_t c_v H
      have H := H1
      clear H1
      have c_l := H.out.cell (g := gl) mem1
      have c_m := H.out.cell (g := g0) mem3
      have c_t := H.out.cell (g := g1) bT
      have c_v := H.out.cell (g := gv) dM
      obtain ⟨ps1, hps1⟩ : ∃ ps1, ps1 = aN L1.l := ⟨_, rfl⟩
      have qes := aC.mk hps1
      rw [← hps1] at HNE H ⊢
      clear hps1
      obtain ⟨p, hp⟩ : ∃ p, ps1.getLast? = some p := by
       cases hh : ps1.getLast? with
       | none => exact absurd (List.getLast?_eq_none_iff.1 hh) HNE.out
       | some p => exact ⟨p, rfl⟩
      have hgp : ps1[ps1.length - 1]? = some p := by rw [← List.getLast?_eq_getElem?]; exact hp
      have hp1 : 0 < ps1.length := by
       have := HNE.out
       cases ps1 with
       | nil => exact absurd rfl this
       | cons _ _ => simp
      have HNM : aC (oN L1.l = p.1.f0) := ⟨by rw [oN, vM, ← qes.out, hp]⟩
      obtain ⟨aq, e1⟩ := D9 (H.out.reads (A := Aq1) aP).2.2 (by omega)
      subst e1
      obtain ⟨h0, h1, h2, h3⟩ := sV (H.out.reads (A := some aq) aP).2.2 hgp
      clear hgp hp
      have hpl : ps1.length ≤ 64 := by
       have := oM L1.l
       have h2 := jZ QZ.out
       rw [qes.out]
       omega
      have hp2 : (0 : Int) ≤ (ps1.length : Int) - 1 := by omega
      have hp3 : (ps1.length : Int) - 1 < (ps1.length : Int) := by omega
      have hpw : IntKind.i64.wrap ((ps1.length : Int) - 1) = (ps1.length : Int) - 1 := by rw [IntKind.wrap_i64]; omega
      obtain ⟨nm, hnm⟩ : ∃ nm, nm = p.1.f0 := ⟨_, rfl⟩
      rw [← hnm] at h0 HNM
      clear hnm
      obtain ⟨D, hD⟩ : ∃ D, D = iU L1.l L1.dn L1.fu L1.fa nm s := ⟨_, rfl⟩
      have qdJ : aC (R = pI L1 s) := ⟨by rw [HRV.out, HSC.out, if_pos rfl]⟩
      have HSA : aC (fZ L1 nm s = (chg L1 D, D.2.2.2.2)) := ⟨by rw [fZ, hD]⟩
      have HD := aC.mk hD
      clear hD
      go_upto_region 10 with fail
      refine fO (n := 12) (S := fun w' => (∀ j : Nat, w'.cell? ⟨gv, j, none⟩ = [.pointer (some ⟨gl, 0, none⟩)][j]?) ∧ (∀ j : Nat, w'.cell? ⟨gl, j, none⟩ = [.slice A1 L1.l.length c1, .bool L1.dn, .int .i64 L1.fu, .int .i64 L1.fa, .int .i64 L1.size, .int .u64 L1.fr, .int .u64 L1.nx, .bool L1.br][j]?) ∧ Sp.Sep b w' (row dX 139 (.slice (some aq) (ps1).length cq1) ps1 :: box gl [.slice A1 L1.l.length c1, .bool L1.dn, .int .i64 L1.fu, .int .i64 L1.fa, .int .i64 L1.size, .int .u64 L1.fr, .int .u64 L1.nx, .bool L1.br] 134 :: row k67 67 (.slice A1 (L1.l).length c1) L1.l :: box g0 [.slice A0 l.length c0, .bool dn, .int .i64 fu, .int .i64 fa, .int .i64 size, .int .u64 fr, .int .u64 (n : Int), .bool false] 30 :: box g1 [.string d] 9 :: box gv [.pointer (some ⟨gl, 0, none⟩)] 131 :: ts)) (ds := [11]) #[false, false, false, false, false, false, false, false, false, false, false, false] (by kernel_rfl) rfl rfl ⟨(fun j => ((Sep.drew H.out)).cell (g := gv) dM j), (fun j => ((Sep.drew H.out)).cell (g := gl) mem1 j), (Sep.drew H.out)⟩ (fun hHeld => ?_)
      refine puS (i := 6) (N := some 93) (v := ?_) (a' := ?_) rfl rfl (by kernel_rfl) (fun _ _ _ h => h) (Or.inl ⟨by rfl, ?_⟩) ?_ ?_
      rotate_left
      ·intro w'
       go_simp
       with_reducible rfl
      rotate_left
      ·simp only [Act.put, zA, zZ, zS, aI, aJ]
       rfl
      refine puS (i := 7) (N := some 94) (v := ?_) (a' := ?_) rfl rfl (by kernel_rfl) (fun _ _ _ h => h) (Or.inl ⟨by rfl, ?_⟩) ?_ ?_
      rotate_left
      ·intro w'
       go_simp
       with_reducible rfl
      rotate_left
      ·simp only [Act.put, zA, zZ, zS, aI, aJ]
       rfl
      refine tkS (i := 0) (N := some 87) (v := ?_) (a' := ?_) rfl rfl (by kernel_rfl) (fun _ _ _ h => h) (Or.inl ⟨by rfl, ?_⟩) hHeld ?_ ?_
      rotate_left
      ·rintro w' ⟨s0, s1, s2⟩
       go_simp
       with_reducible rfl
      rotate_left
      ·simp only [Act.put, zA, zZ, zS, aI, aJ]
       rfl
      refine tkS (i := 1) (N := some 88) (v := ?_) (a' := ?_) rfl rfl (by kernel_rfl) (fun _ _ _ h => h) (Or.inl ⟨by rfl, ?_⟩) hHeld ?_ ?_
      rotate_left
      ·rintro w' ⟨s0, s1, s2⟩
       go_simp
       with_reducible rfl
      rotate_left
      ·simp only [Act.put, zA, zZ, zS, aI, aJ]
       rfl
      refine puS (i := 2) (N := some 89) (v := ?_) (a' := ?_) rfl rfl (by kernel_rfl) (fun _ _ _ h => h) (Or.inl ⟨by rfl, ?_⟩) ?_ ?_
      rotate_left
      ·intro w'
       go_simp
       with_reducible rfl
      rotate_left
      ·simp only [Act.put, zA, zZ, zS, aI, aJ]
       rfl
      refine puS (i := 3) (N := some 90) (v := ?_) (a' := ?_) rfl rfl (by kernel_rfl) (fun _ _ _ h => h) (Or.inl ⟨by rfl, ?_⟩) ?_ ?_
      rotate_left
      ·intro w'
       go_simp
       with_reducible rfl
      rotate_left
      ·simp only [Act.put, zA, zZ, zS, aI, aJ]
       rfl
      refine puS (i := 4) (N := some 91) (v := ?_) (a' := ?_) rfl rfl (by kernel_rfl) (fun _ _ _ h => h) (Or.inl ⟨by rfl, ?_⟩) ?_ ?_
      rotate_left
      ·intro w'
       go_simp
       with_reducible rfl
      rotate_left
      ·simp only [Act.put, zA, zZ, zS, aI, aJ]
       rfl
      refine tkS (i := 5) (N := some 92) (v := ?_) (a' := ?_) rfl rfl (by kernel_rfl) (fun _ _ _ h => h) (Or.inl ⟨by rfl, ?_⟩) hHeld ?_ ?_
      rotate_left
      ·rintro w' ⟨s0, s1, s2⟩
       go_simp
       with_reducible rfl
      rotate_left
      ·simp only [Act.put, zA, zZ, zS, aI, aJ]
       rfl
      refine onS (i := 8) (N := some 95) rfl rfl (by kernel_rfl) (by decide) (fun K hK => ?_)
      refine oC Tryz.func82 (by kernel_rfl) rfl #[.agg #[.slice A1 L1.l.length c1, .bool L1.dn, .int .i64 L1.fu, .int .i64 L1.fa], .string nm, .string s] (by rfl) rfl rfl (by simp only [List.map_toArray, List.map_cons, List.map_nil]; rfl) ?_
      with_reducible refine (qM.calls A1 c1 L1.l L1.dn L1.fu L1.fa nm s D.1 D.2.1 D.2.2.1 D.2.2.2.1 D.2.2.2.2 _ (Sep.reads hHeld.2.2 mem2).2.2 (Sep.reads hHeld.2.2 mem2).2.1 (by rw [I5, ← HD.out])).mono ?_
      rintro e w5 ⟨v_, rfl, ho_, tX⟩
      obtain ⟨A3, c3, eo_⟩ := Kd.dZ ho_
      subst eo_
      have HN3 := aC.mk (Sep.jQ hHeld.2.2 tX ho_ o9)
      refine ⟨_, rfl, ?_⟩
      refine hK.out _ _ ⟨(fun j => ((Sep.step hHeld.2.2 tX)).cell (g := gv) dM j), (fun j => ((Sep.step hHeld.2.2 tX)).cell (g := gl) mem1 j), (Sep.step hHeld.2.2 tX)⟩ (fun hHeld => ?_)
      clear hK K
      refine fE (a' := ?_) ?_ ?_
      rotate_left
      ·show Act.put _ (some 95) _ = _
       simp only [Act.put, zA, zZ, zS, aI, aJ]
       rfl
      refine puS (i := 9) (N := some 96) (v := ?_) (a' := ?_) rfl rfl (by kernel_rfl) (fun _ _ _ h => h) (Or.inl ⟨by rfl, ?_⟩) ?_ ?_
      rotate_left
      ·intro w'
       go_simp
       with_reducible rfl
      rotate_left
      ·simp only [Act.put, zA, zZ, zS, aI, aJ]
       rfl
      refine puS (i := 10) (N := some 97) (v := ?_) (a' := ?_) rfl rfl (by kernel_rfl) (fun _ _ _ h => h) (Or.inl ⟨by rfl, ?_⟩) ?_ ?_
      rotate_left
      ·intro w'
       go_simp
       with_reducible rfl
      rotate_left
      ·simp only [Act.put, zA, zZ, zS, aI, aJ]
       rfl
      refine laS (i := 11) (N := some 98) rfl rfl (by kernel_rfl) (by decide) (fun K hK => ?_)
      refine sD Tryz.func72 (by kernel_rfl) rfl #[.pointer (some ⟨gl, 0, none⟩), .agg #[.slice A3 D.1.length c3, .bool D.2.1, .int .i64 D.2.2.1, .int .i64 D.2.2.2.1], .int .i64 D.2.2.2.2] (by rfl) rfl rfl (by simp only [List.map_toArray, List.map_cons, List.map_nil]; rfl) ?_
      refine (pV gl A1 c1 L1 A3 c3 D (rs := lV A3 c3 D.1 :: (row dX 139 (.slice (some aq) (ps1).length cq1) ps1 :: row k67 67 (.slice A1 (L1.l).length c1) L1.l :: box g0 [.slice A0 l.length c0, .bool dn, .int .i64 fu, .int .i64 fa, .int .i64 size, .int .u64 fr, .int .u64 (n : Int), .bool false] 30 :: box g1 [.string d] 9 :: box gv [.pointer (some ⟨gl, 0, none⟩)] 131 :: ts)) ⟨HN3.out.iY⟩).mono ?_
      rintro e w6 ⟨hE, H4⟩
      rcases hE with ⟨hz, rfl⟩ | ⟨hnz, rfl⟩
      rotate_left
      ·refine .inr ⟨_, rfl, ?_⟩
       have hV : R = (chg L1 D, D.2.2.2.2) := by rw [qdJ.out, pI, HNM.out, HSA.out, if_neg hnz]
       show _ ∧ _
       rw [hV]
       exact ⟨rfl, .inr ⟨hnz, rfl⟩, A3, c3, ⟨(Sep.drop2 (Sep.iJ H4.out))⟩⟩
      refine .inl ⟨_, rfl, ?_⟩
      refine hK.out _ _ ?_
      clear hK K
      refine fE (a' := ?_) ?_ ?_
      rotate_left
      ·show Act.put _ (some 98) _ = _
       simp only [Act.put, zA, zZ, zS, aI, aJ]
       rfl
      refine iT (by kernel_rfl) ?_
      clear c_l c_m c_t c_v H
      have H : aC (Sep b w6 (box gl [.slice A3 D.1.length c3, .bool D.2.1, .int .i64 D.2.2.1, .int .i64 D.2.2.2.1, .int .i64 L1.size, .int .u64 L1.fr, .int .u64 L1.nx, .bool (if D.2.2.2.2 = 0 then L1.br else true)] 134 :: row k67 67 (.slice A3 (D.1).length c3) D.1 :: box g0 [.slice A0 l.length c0, .bool dn, .int .i64 fu, .int .i64 fa, .int .i64 size, .int .u64 fr, .int .u64 (n : Int), .bool false] 30 :: box g1 [.string d] 9 :: box gv [.pointer (some ⟨gl, 0, none⟩)] 131 :: ts)) := ⟨(Sep.drop2 (Sep.iJ H4.out))⟩
      clear H4 HN3
      have c_l := H.out.cell (g := gl) aP
      have c_m := H.out.cell (g := g0) mem2
      have c_t := H.out.cell (g := g1) mem3
      have c_v := H.out.cell (g := gv) bT
      obtain ⟨E, hE⟩ : ∃ E, E = qY D.1 D.2.1 D.2.2.1 D.2.2.2.1 nm := ⟨_, rfl⟩
      have HSS : aC (stepS (chg L1 D) nm = (chg (chg L1 D) E, E.2.2.2.2)) := ⟨by rw [stepS, hE]; rfl⟩
      have HE := aC.mk hE
      have HZ := aC.mk hz
      clear hE hz
      go_upto_region 11 with fail
      refine fO (n := 11) (S := fun w' => (∀ j : Nat, w'.cell? ⟨gv, j, none⟩ = [.pointer (some ⟨gl, 0, none⟩)][j]?) ∧ (∀ j : Nat, w'.cell? ⟨gl, j, none⟩ = [.slice A3 D.1.length c3, .bool D.2.1, .int .i64 D.2.2.1, .int .i64 D.2.2.2.1, .int .i64 L1.size, .int .u64 L1.fr, .int .u64 L1.nx, .bool (if D.2.2.2.2 = 0 then L1.br else true)][j]?) ∧ Sp.Sep b w' (box gl [.slice A3 D.1.length c3, .bool D.2.1, .int .i64 D.2.2.1, .int .i64 D.2.2.2.1, .int .i64 L1.size, .int .u64 L1.fr, .int .u64 L1.nx, .bool (if D.2.2.2.2 = 0 then L1.br else true)] 134 :: row k67 67 (.slice A3 (D.1).length c3) D.1 :: box g0 [.slice A0 l.length c0, .bool dn, .int .i64 fu, .int .i64 fa, .int .i64 size, .int .u64 fr, .int .u64 (n : Int), .bool false] 30 :: box g1 [.string d] 9 :: box gv [.pointer (some ⟨gl, 0, none⟩)] 131 :: ts)) (ds := [10]) #[false, false, false, false, false, false, false, false, false, false, false] (by kernel_rfl) rfl rfl ⟨(fun j => ((Sep.drew H.out)).cell (g := gv) bT j), (fun j => ((Sep.drew H.out)).cell (g := gl) aP j), (Sep.drew H.out)⟩ (fun hHeld => ?_)
      refine puS (i := 6) (N := some 105) (v := ?_) (a' := ?_) rfl rfl (by kernel_rfl) (fun _ _ _ h => h) (Or.inl ⟨by rfl, ?_⟩) ?_ ?_
      rotate_left
      ·intro w'
       go_simp
       with_reducible rfl
      rotate_left
      ·simp only [Act.put, zA, zZ, zS, aI, aJ]
       rfl
      refine tkS (i := 0) (N := some 99) (v := ?_) (a' := ?_) rfl rfl (by kernel_rfl) (fun _ _ _ h => h) (Or.inl ⟨by rfl, ?_⟩) hHeld ?_ ?_
      rotate_left
      ·rintro w' ⟨s0, s1, s2⟩
       go_simp
       with_reducible rfl
      rotate_left
      ·simp only [Act.put, zA, zZ, zS, aI, aJ]
       rfl
      refine tkS (i := 1) (N := some 100) (v := ?_) (a' := ?_) rfl rfl (by kernel_rfl) (fun _ _ _ h => h) (Or.inl ⟨by rfl, ?_⟩) hHeld ?_ ?_
      rotate_left
      ·rintro w' ⟨s0, s1, s2⟩
       go_simp
       with_reducible rfl
      rotate_left
      ·simp only [Act.put, zA, zZ, zS, aI, aJ]
       rfl
      refine puS (i := 2) (N := some 101) (v := ?_) (a' := ?_) rfl rfl (by kernel_rfl) (fun _ _ _ h => h) (Or.inl ⟨by rfl, ?_⟩) ?_ ?_
      rotate_left
      ·intro w'
       go_simp
       with_reducible rfl
      rotate_left
      ·simp only [Act.put, zA, zZ, zS, aI, aJ]
       rfl
      refine puS (i := 3) (N := some 102) (v := ?_) (a' := ?_) rfl rfl (by kernel_rfl) (fun _ _ _ h => h) (Or.inl ⟨by rfl, ?_⟩) ?_ ?_
      rotate_left
      ·intro w'
       go_simp
       with_reducible rfl
      rotate_left
      ·simp only [Act.put, zA, zZ, zS, aI, aJ]
       rfl
      refine puS (i := 4) (N := some 103) (v := ?_) (a' := ?_) rfl rfl (by kernel_rfl) (fun _ _ _ h => h) (Or.inl ⟨by rfl, ?_⟩) ?_ ?_
      rotate_left
      ·intro w'
       go_simp
       with_reducible rfl
      rotate_left
      ·simp only [Act.put, zA, zZ, zS, aI, aJ]
       rfl
      refine tkS (i := 5) (N := some 104) (v := ?_) (a' := ?_) rfl rfl (by kernel_rfl) (fun _ _ _ h => h) (Or.inl ⟨by rfl, ?_⟩) hHeld ?_ ?_
      rotate_left
      ·rintro w' ⟨s0, s1, s2⟩
       go_simp
       with_reducible rfl
      rotate_left
      ·simp only [Act.put, zA, zZ, zS, aI, aJ]
       rfl
      refine onS (i := 7) (N := some 106) rfl rfl (by kernel_rfl) (by decide) (fun K hK => ?_)
      refine oC Tryz.func83 (by kernel_rfl) rfl #[.agg #[.slice A3 D.1.length c3, .bool D.2.1, .int .i64 D.2.2.1, .int .i64 D.2.2.2.1], .string nm] (by rfl) rfl rfl (by simp only [List.map_toArray, List.map_cons, List.map_nil]; rfl) ?_
      with_reducible refine (uI.calls A3 c3 D.1 D.2.1 D.2.2.1 D.2.2.2.1 nm E.1 E.2.1 E.2.2.1 E.2.2.2.1 E.2.2.2.2 _ (Sep.reads hHeld.2.2 mem1).2.2 (Sep.reads hHeld.2.2 mem1).2.1 (by rw [NG, ← HE.out])).mono ?_
      rintro e w7 ⟨v_, rfl, ho_, tX⟩
      obtain ⟨A4, c4, eo_⟩ := Kd.dZ ho_
      subst eo_
      have HN3 := aC.mk (Sep.jQ hHeld.2.2 tX ho_ o9)
      refine ⟨_, rfl, ?_⟩
      refine hK.out _ _ ⟨(fun j => ((Sep.step hHeld.2.2 tX)).cell (g := gv) bT j), (fun j => ((Sep.step hHeld.2.2 tX)).cell (g := gl) aP j), (Sep.step hHeld.2.2 tX)⟩ (fun hHeld => ?_)
      clear hK K
      refine fE (a' := ?_) ?_ ?_
      rotate_left
      ·show Act.put _ (some 106) _ = _
       simp only [Act.put, zA, zZ, zS, aI, aJ]
       rfl
      refine puS (i := 8) (N := some 107) (v := ?_) (a' := ?_) rfl rfl (by kernel_rfl) (fun _ _ _ h => h) (Or.inl ⟨by rfl, ?_⟩) ?_ ?_
      rotate_left
      ·intro w'
       go_simp
       with_reducible rfl
      rotate_left
      ·simp only [Act.put, zA, zZ, zS, aI, aJ]
       rfl
      refine puS (i := 9) (N := some 108) (v := ?_) (a' := ?_) rfl rfl (by kernel_rfl) (fun _ _ _ h => h) (Or.inl ⟨by rfl, ?_⟩) ?_ ?_
      rotate_left
      ·intro w'
       go_simp
       with_reducible rfl
      rotate_left
      ·simp only [Act.put, zA, zZ, zS, aI, aJ]
       rfl
      refine laS (i := 10) (N := some 109) rfl rfl (by kernel_rfl) (by decide) (fun K hK => ?_)
      refine sD Tryz.func72 (by kernel_rfl) rfl #[.pointer (some ⟨gl, 0, none⟩), .agg #[.slice A4 E.1.length c4, .bool E.2.1, .int .i64 E.2.2.1, .int .i64 E.2.2.2.1], .int .i64 E.2.2.2.2] (by rfl) rfl rfl (by simp only [List.map_toArray, List.map_cons, List.map_nil]; rfl) ?_
      refine (pV gl A3 c3 (chg L1 D) A4 c4 E (rs := lV A4 c4 E.1 :: (row k67 67 (.slice A3 (D.1).length c3) D.1 :: box g0 [.slice A0 l.length c0, .bool dn, .int .i64 fu, .int .i64 fa, .int .i64 size, .int .u64 fr, .int .u64 (n : Int), .bool false] 30 :: box g1 [.string d] 9 :: box gv [.pointer (some ⟨gl, 0, none⟩)] 131 :: ts)) ⟨HN3.out.iW⟩).mono ?_
      rintro e w8 ⟨hE, H4⟩
      rcases hE with ⟨hz2, rfl⟩ | ⟨hnz, rfl⟩
      rotate_left
      ·refine .inr ⟨_, rfl, ?_⟩
       have hV : R = (chg (chg L1 D) E, E.2.2.2.2) := by rw [qdJ.out, pI, HNM.out, HSA.out, if_pos HZ.out, HSS.out, if_neg hnz]
       show _ ∧ _
       rw [hV]
       exact ⟨rfl, .inr ⟨hnz, rfl⟩, A4, c4, ⟨(Sep.drop2 H4.out)⟩⟩
      refine .inl ⟨_, rfl, ?_⟩
      refine hK.out _ _ ?_
      clear hK K
      refine fE (a' := ?_) ?_ ?_
      rotate_left
      ·show Act.put _ (some 109) _ = _
       simp only [Act.put, zA, zZ, zS, aI, aJ]
       rfl
      refine iT (by kernel_rfl) ?_
      clear c_l c_m c_t c_v H
      have H : aC (Sep b w8 (box gl [.slice A4 E.1.length c4, .bool E.2.1, .int .i64 E.2.2.1, .int .i64 E.2.2.2.1, .int .i64 L1.size, .int .u64 L1.fr, .int .u64 L1.nx, .bool (if E.2.2.2.2 = 0 then (if D.2.2.2.2 = 0 then L1.br else true) else true)] 134 :: row k67 67 (.slice A4 (E.1).length c4) E.1 :: box g0 [.slice A0 l.length c0, .bool dn, .int .i64 fu, .int .i64 fa, .int .i64 size, .int .u64 fr, .int .u64 (n : Int), .bool false] 30 :: box g1 [.string d] 9 :: box gv [.pointer (some ⟨gl, 0, none⟩)] 131 :: ts)) := ⟨(Sep.drop2 H4.out)⟩
      clear H4 HN3
      have c_l := H.out.cell (g := gl) aP
      have z_l := H.out.frozen (g := gl) aP
      have c_m := H.out.cell (g := g0) mem2
      have c_t := H.out.cell (g := g1) mem3
      have c_v := H.out.cell (g := gv) bT
      have HZ2 := aC.mk hz2
      clear hz2
      have hx1 : 0 ≤ L1.nx := by omega
      have hx2 : L1.nx < 4611686018427387904 := by omega
      have HNX := aC.mk hnx
      clear hnx
      go_wp2_with (first
 |((with_reducible refine aV (t := 28) (p := 118) rfl ?_);
   refine bH (rs1 := (box gl [.slice A4 E.1.length c4, .bool E.2.1, .int .i64 E.2.2.1, .int .i64 E.2.2.2.1, .int .i64 L1.size, .int .u64 L1.fr, .int .u64 (L1.nx + 1), .bool (if E.2.2.2.2 = 0 then (if D.2.2.2.2 = 0 then L1.br else true) else true)] 134 :: row k67 67 (.slice A4 (E.1).length c4) E.1 :: box g0 [.slice A0 l.length c0, .bool dn, .int .i64 fu, .int .i64 fa, .int .i64 size, .int .u64 fr, .int .u64 (n : Int), .bool false] 30 :: box g1 [.string d] 9 :: box gv [.pointer (some ⟨gl, 0, none⟩)] 131 :: ts)) rfl (t := 28) (p := 118) rfl rfl ?hr (H1 := (Sep.set0 H.out 6 (.int .u64 (L1.nx + 1)) rfl)) ?_;
   (case hr => first | (go_simp; done) | (go_simp; rfl));
   intro wd4 n_;
   clear H c_l z_l c_m c_t c_v;
   have H := n_;
   clear n_;
   have c_l := H.out.cell (g := gl) aP;
   have z_l := H.out.frozen (g := gl) aP;
   have c_m := H.out.cell (g := g0) mem2;
   have c_t := H.out.cell (g := g1) mem3;
   have c_v := H.out.cell (g := gv) bT)
 |fail)
      go_end0
      have hV : R = ({ chg (chg L1 D) E with nx := L1.nx + 1 }, 0) := by rw [qdJ.out, pI, HNM.out, HSA.out, if_pos HZ.out, HSS.out, if_pos HZ2.out]
      rw [hV]
      exact ⟨.inl ⟨rfl, rfl⟩, A4, c4, H⟩
def fC : Lg → List Pl → Int → Lg × Int × List Pl
 | L, p :: p2 :: r, q => if (p2.2 : Int) ≤ q then
   if (gX L.l L.dn L.fu L.fa p.1.f0).2.2.2.2 = 0 then fC (chg L (gX L.l L.dn L.fu L.fa p.1.f0)) (p2 :: r) q else (chg L (gX L.l L.dn L.fu L.fa p.1.f0), (gX L.l L.dn L.fu L.fa p.1.f0).2.2.2.2, [])
  else (L, 0, p :: p2 :: r)
 | L, [p], q => (L, 0, [p])
 | L, [], q => (L, 0, [])
def yO (L : Lg) (ps : List Pl) : Lg := match ps with | [] => L | p :: _ => { L with fr := (p.2 : Int) }
noncomputable def tY (L : Lg) (q : Int) : Lg × Int :=
 if L.br = true then (L, 6)
 else if L.nx < q then (L, 2)
 else if (fC L (aN L.l) q).2.1 = 0 then (yO (fC L (aN L.l) q).1 (fC L (aN L.l) q).2.2, 0)
 else ((fC L (aN L.l) q).1, (fC L (aN L.l) q).2.1)
theorem drop_step {L : Lg} {rest : List Pl} {q : Int} {p p2 : Pl} {D : JM} (h0 : rest[0]? = some p) (h1 : rest[1]? = some p2) (hq : (p2.2 : Int) ≤ q) (hD : D = gX L.l L.dn L.fu L.fa p.1.f0) :
  fC L rest q = if D.2.2.2.2 = 0 then fC (chg L D) (rest.drop 1) q else (chg L D, D.2.2.2.2, []) := by
 match rest, h0, h1 with
 | a :: b :: r, h0, h1 =>
  simp only [List.getElem?_cons_zero, List.getElem?_cons_succ, Option.some.injEq] at h0 h1
  subst h0 h1 hD
  rw [fC, if_pos hq]
  rfl
theorem TS {L : Lg} {rest : List Pl} {q : Int} (h : ¬ 1 < rest.length) : fC L rest q = (L, 0, rest) := by
 match rest, h with
 | [], _ => rfl
 | [p], _ => rfl
 | p :: p2 :: r, h => simp at h
theorem TT {L : Lg} {rest : List Pl} {q : Int} {p2 : Pl} (h1 : rest[1]? = some p2) (hq : ¬ (p2.2 : Int) ≤ q) : fC L rest q = (L, 0, rest) := by
 match rest, h1 with
 | a :: b :: r, h1 =>
  simp only [List.getElem?_cons_zero, List.getElem?_cons_succ, Option.some.injEq] at h1
  subst h1
  rw [fC, if_neg hq]
set_option maxHeartbeats 8000000 in
theorem qci (b : World) (gl g0 g1 gv : Nat) (l : List S67) (dn : Bool) (fu fa size fr : Int) (n : Nat) (br : Bool) (q : Int) (A0 : Option Addr) (c0 : Nat) (hok : bI l = true) (hG : Gl b) (hn : n < 18446744073709551616) (hq0 : 0 ≤ q) :
  LK b gl 84 #[.pointer (some ⟨g0, 0, none⟩), .pointer (some ⟨g1, 0, none⟩), .pointer (some ⟨gv, 0, none⟩)] ⟨l, dn, fu, fa, size, fr, (n : Int), br⟩ [box g0 [.slice A0 l.length c0, .bool dn, .int .i64 fu, .int .i64 fa, .int .i64 size, .int .u64 fr, .int .u64 (n : Int), .bool br] 30, box g1 [.int .u64 q] 28, box gv [.pointer (some ⟨gl, 0, none⟩)] 131] (tY ⟨l, dn, fu, fa, size, fr, (n : Int), br⟩ q).1 (tY ⟨l, dn, fu, fa, size, fr, (n : Int), br⟩ q).2 := by
 intro A c w ts H0
 have HOK := aC.mk hok
 have HG := aC.mk hG
 have hlen : l.length ≤ 64 := jZ hok
 clear hok hG
 obtain ⟨R, hR⟩ : ∃ R, R = tY ⟨l, dn, fu, fa, size, fr, (n : Int), br⟩ q := ⟨_, rfl⟩
 rw [← hR]
 have HR := aC.mk hR
 clear hR
 have H : aC (Sep b w (box gl [.slice A l.length c, .bool dn, .int .i64 fu, .int .i64 fa, .int .i64 size, .int .u64 fr, .int .u64 (n : Int), .bool br] 134 :: row k67 67 (.slice A (l).length c) l :: box g0 [.slice A0 l.length c0, .bool dn, .int .i64 fu, .int .i64 fa, .int .i64 size, .int .u64 fr, .int .u64 (n : Int), .bool br] 30 :: box g1 [.int .u64 q] 28 :: box gv [.pointer (some ⟨gl, 0, none⟩)] 131 :: ts)) := H0
 clear H0
 have c_l := H.out.cell (g := gl) aP
 have c_m := H.out.cell (g := g0) mem2
 have c_t := H.out.cell (g := g1) mem3
 have c_v := H.out.cell (g := gv) bT
 go_enter Tryz.func84, Tryz.ntmps84
 cases br with
 | true =>
  go_wp2_with fail
  refine (C9 6 _).mono ?_
  rintro e w_ ⟨rfl, rfl⟩
  have hV : R = (⟨l, dn, fu, fa, size, fr, (n : Int), true⟩, 6) := by rw [HR.out, tY, if_pos rfl]
  show _ ∧ _
  rw [hV]
  exact ⟨rfl, .inr ⟨show (6 : Int) ≠ 0 by decide, rfl⟩, A, c, H⟩
 | false =>
  go_wp2_with fail
  refine (xB 6 _).mono ?_
  rintro e w_ ⟨rfl, rfl⟩
  by_cases hx : (n : Int) < q
  ·
   have hq2 : decide (q ≤ (n : Int)) = false := decide_eq_false (by omega)
   go_wp2_with fail
   try simp only [hq2]
   refine (C9 2 _).mono ?_
   rintro e w_ ⟨rfl, rfl⟩
   have hV : R = (⟨l, dn, fu, fa, size, fr, (n : Int), false⟩, 2) := by rw [HR.out, tY, if_neg (by simp), if_pos hx]
   show _ ∧ _
   rw [hV]
   exact ⟨rfl, .inr ⟨show (2 : Int) ≠ 0 by decide, rfl⟩, A, c, H⟩
  ·
   have hq2 : decide (q ≤ (n : Int)) = true := decide_eq_true (by omega)
   go_wp2_with fail
   try simp only [hq2]
   refine (xB 2 _).mono ?_
   rintro e w_ ⟨rfl, rfl⟩
   obtain ⟨ps, hps⟩ : ∃ ps, ps = aN l := ⟨_, rfl⟩
   have hRV : R = (if (fC ⟨l, dn, fu, fa, size, fr, (n : Int), false⟩ ps q).2.1 = 0 then (yO (fC ⟨l, dn, fu, fa, size, fr, (n : Int), false⟩ ps q).1 (fC ⟨l, dn, fu, fa, size, fr, (n : Int), false⟩ ps q).2.2, 0) else ((fC ⟨l, dn, fu, fa, size, fr, (n : Int), false⟩ ps q).1, (fC ⟨l, dn, fu, fa, size, fr, (n : Int), false⟩ ps q).2.1)) := by
    rw [HR.out, tY, if_neg (by simp), if_neg (by show ¬ ((n : Int) < q); omega), hps]
   have HRV := aC.mk hRV
   have PA := aC.mk (fun A c w hr hc hG => places_any A c l dn fu fa w hr hc hlen (EG HOK.out) hG)
   rw [← hps] at PA
   have hpl : ps.length ≤ 64 := by
    have := oM l
    rw [← hps] at this
    omega
   have HPB : aC (∀ p ∈ ps, p.2 ≤ most) := ⟨fun p hp => (oV HOK.out hps hp).2.1⟩
   clear hps HR hRV hq2
   go_wp2_with fail
   refine ((PA.out A c _ (H.out.reads mem1).2.2 (H.out.reads mem1).2.1 (HG.out.below H.out.below)).mono ?_)
   rintro e wd1 ⟨v_, rfl, ho_, hb_⟩
   obtain ⟨Aq, cq, eo_⟩ := Kd.dZ ho_
   subst eo_
   have n_ : aC (Sep b wd1 (row dX 139 (.slice Aq (ps).length cq) ps :: box gl [.slice A l.length c, .bool dn, .int .i64 fu, .int .i64 fa, .int .i64 size, .int .u64 fr, .int .u64 (n : Int), .bool false] 134 :: row k67 67 (.slice A (l).length c) l :: box g0 [.slice A0 l.length c0, .bool dn, .int .i64 fu, .int .i64 fa, .int .i64 size, .int .u64 fr, .int .u64 (n : Int), .bool false] 30 :: box g1 [.int .u64 q] 28 :: box gv [.pointer (some ⟨gl, 0, none⟩)] 131 :: ts)) := ⟨Sep.jQ H.out hb_ ho_ uK⟩
   clear H c_l c_m c_t c_v
   have H := n_
   clear n_
   have c_l := H.out.cell (g := gl) mem1
   have c_m := H.out.cell (g := g0) mem3
   have c_t := H.out.cell (g := g1) bT
   have c_v := H.out.cell (g := gv) dM
   clear ho_ hb_
   go_wp2_with fail
   go_loopw [3] (fun v3 wr => ∃ (L : Lg) (rest : List Pl) (A5 : Option Addr) (c5 : Nat) (A4 : Option Addr) (c4 : Nat), v3 = .slice A5 rest.length c5 ∧ rest.length ≤ c5 ∧ rest.length ≤ 64 ∧ aC (∀ p ∈ rest, p.2 ≤ most) ∧ aC (∀ W, Kd.C dX W Aq ps.length ps → Kd.C dX W A5 rest.length rest) ∧ aC (fC ⟨l, dn, fu, fa, size, fr, (n : Int), false⟩ ps q = fC L rest q) ∧ aC (Sep b wr (row dX 139 (.slice Aq (ps).length cq) ps :: box gl [.slice A4 L.l.length c4, .bool L.dn, .int .i64 L.fu, .int .i64 L.fa, .int .i64 L.size, .int .u64 L.fr, .int .u64 L.nx, .bool L.br] 134 :: row k67 67 (.slice A4 (L.l).length c4) L.l :: box g0 [.slice A0 l.length c0, .bool dn, .int .i64 fu, .int .i64 fa, .int .i64 size, .int .u64 fr, .int .u64 (n : Int), .bool false] 30 :: box g1 [.int .u64 q] 28 :: box gv [.pointer (some ⟨gl, 0, none⟩)] 131 :: ts)))
    (fun v3 _ => match v3 with | .slice _ k _ => k | _ => 0)
   case atStart => exact ⟨⟨l, dn, fu, fa, size, fr, (n : Int), false⟩, ps, Aq, cq, A, c, rfl, (H.out.reads aP).2.1, hpl, HPB, ⟨fun W h => h⟩, ⟨rfl⟩, H⟩
   case round =>
    clear H c_l c_m c_t c_v
    obtain ⟨L, rest, A5, c5, A4, c4, rfl, hc5, hrl, qet, HC5, HDA, H⟩ := hrel
    have c_l := H.out.cell (g := gl) mem1
    have c_m := H.out.cell (g := g0) mem3
    have c_t := H.out.cell (g := g1) bT
    have c_v := H.out.cell (g := gv) dM
    by_cases hl1 : 1 < rest.length
    ·
     obtain ⟨p, hp⟩ : ∃ p, rest[0]? = some p := ⟨_, List.getElem?_eq_getElem (by omega)⟩
     obtain ⟨a5, e1⟩ := D9 (HC5.out _ (H.out.reads (A := Aq) aP).2.2) (by omega)
     subst e1
     obtain ⟨h0, h1, h2, h3⟩ := sV (HC5.out _ (H.out.reads (A := Aq) aP).2.2) hp
     have ea : a5.add 0 = a5 := by simp [Addr.add]
     simp only [Nat.zero_mul, ea] at h0 h1 h2 h3
     have HP0 := aC.mk hp
     clear ea
     obtain ⟨p2, hp2⟩ : ∃ p2, rest[1]? = some p2 := ⟨_, List.getElem?_eq_getElem (by omega)⟩
     obtain ⟨k0, k1, k2, k3⟩ := sV (HC5.out _ (H.out.reads (A := Aq) aP).2.2) hp2
     simp only [Nat.one_mul] at k0 k1 k2 k3
     have k4 : wr.cell? ⟨a5.block, a5.off + 4 + 3, none⟩ = some (.int .u64 (p2.2 : Int)) := k3
     have HP2 := aC.mk hp2
     have qis : p2.2 ≤ 4611686018427387904 := qet.out p2 (List.mem_of_getElem? hp2)
     have q1 : decide ((1 : Int) < (rest.length : Int)) = true := decide_eq_true (by omega)
     have q5 : (1 : Int) < (rest.length : Int) := by omega
     clear hp hp2 k0 k1 k2 k3
     by_cases hq2 : (p2.2 : Int) ≤ q
     ·
      obtain ⟨D, hD⟩ : ∃ D, D = gX L.l L.dn L.fu L.fa p.1.f0 := ⟨_, rfl⟩
      have HDS := aC.mk (drop_step HP0.out HP2.out hq2 hD)
      have HD := aC.mk hD
      clear hD
      have q2 := decide_eq_true hq2
      go_upto_region 3 with fail
      go_quiet (fail)
      clear h0 h1 h2 h3 k4
      have hl00 : 0 < rest.length := by omega
      go_upto_region 4 with fail
      refine IV (rs := (row dX 139 (.slice Aq (ps).length cq) ps :: box gl [.slice A4 L.l.length c4, .bool L.dn, .int .i64 L.fu, .int .i64 L.fa, .int .i64 L.size, .int .u64 L.fr, .int .u64 L.nx, .bool L.br] 134 :: row k67 67 (.slice A4 (L.l).length c4) L.l :: box g0 [.slice A0 l.length c0, .bool dn, .int .i64 fu, .int .i64 fa, .int .i64 size, .int .u64 fr, .int .u64 (n : Int), .bool false] 30 :: box g1 [.int .u64 q] 28 :: box gv [.pointer (some ⟨gl, 0, none⟩)] 131 :: ts)) (Sep.drewN H.out _) ?_
      intro wd2 n_
      clear H c_l c_m c_t c_v
      have H := n_
      clear n_
      have c_l := H.out.cell (g := gl) mem1
      have c_m := H.out.cell (g := g0) mem3
      have c_t := H.out.cell (g := g1) bT
      have c_v := H.out.cell (g := gv) dM
      refine fO (n := 15) (S := fun w' => (∀ j : Nat, w'.cell? ⟨gv, j, none⟩ = [.pointer (some ⟨gl, 0, none⟩)][j]?) ∧ (∀ j : Nat, w'.cell? ⟨gl, j, none⟩ = [.slice A4 L.l.length c4, .bool L.dn, .int .i64 L.fu, .int .i64 L.fa, .int .i64 L.size, .int .u64 L.fr, .int .u64 L.nx, .bool L.br][j]?) ∧ w'.cell? a5 = some (.string p.1.f0) ∧ Sp.Sep b w' (row dX 139 (.slice Aq (ps).length cq) ps :: box gl [.slice A4 L.l.length c4, .bool L.dn, .int .i64 L.fu, .int .i64 L.fa, .int .i64 L.size, .int .u64 L.fr, .int .u64 L.nx, .bool L.br] 134 :: row k67 67 (.slice A4 (L.l).length c4) L.l :: box g0 [.slice A0 l.length c0, .bool dn, .int .i64 fu, .int .i64 fa, .int .i64 size, .int .u64 fr, .int .u64 (n : Int), .bool false] 30 :: box g1 [.int .u64 q] 28 :: box gv [.pointer (some ⟨gl, 0, none⟩)] 131 :: ts)) (ds := [14]) #[false, false, false, false, false, false, false, false, false, false, false, false, false, false, false] (by kernel_rfl) rfl rfl ⟨(fun j => ((Sep.drew H.out)).cell (g := gv) dM j), (fun j => ((Sep.drew H.out)).cell (g := gl) mem1 j), (by have h := (sV (HC5.out _ (Sep.reads (A := Aq) (Sep.drew H.out) aP).2.2) HP0.out).1; rwa [show a5.add (0 * 4) = a5 by simp [Addr.add]] at h), (Sep.drew H.out)⟩ (fun hHeld => ?_)
      refine puS (i := 6) (N := some 36) (v := ?_) (a' := ?_) rfl rfl (by kernel_rfl) (fun _ _ _ h => h) (Or.inl ⟨by rfl, ?_⟩) ?_ ?_
      rotate_left
      ·intro w'
       go_simp
       with_reducible rfl
      rotate_left
      ·simp only [Act.put, zA, zZ, zS, aI, aJ]
       rfl
      refine puS (i := 7) (N := some 37) (v := ?_) (a' := ?_) rfl rfl (by kernel_rfl) (fun _ _ _ h => h) (Or.inl ⟨by rfl, ?_⟩) ?_ ?_
      rotate_left
      ·intro w'
       go_simp
       with_reducible rfl
      rotate_left
      ·simp only [Act.put, zA, zZ, zS, aI, aJ]
       rfl
      refine puS (i := 8) (N := some 38) (v := ?_) (a' := ?_) rfl rfl (by kernel_rfl) (fun _ _ _ h => h) (Or.inl ⟨by rfl, ?_⟩) ?_ ?_
      rotate_left
      ·intro w'
       go_simp
       with_reducible rfl
      rotate_left
      ·simp only [Act.put, zA, zZ, zS, aI, aJ]
       rfl
      refine puS (i := 9) (N := some 39) (v := ?_) (a' := ?_) rfl rfl (by kernel_rfl) (fun _ _ _ h => h) (Or.inl ⟨by rfl, ?_⟩) ?_ ?_
      rotate_left
      ·intro w'
       go_simp
       with_reducible rfl
      rotate_left
      ·simp only [Act.put, zA, zZ, zS, aI, aJ]
       rfl
      refine tkS (i := 0) (N := some 30) (v := ?_) (a' := ?_) rfl rfl (by kernel_rfl) (fun _ _ _ h => h) (Or.inl ⟨by rfl, ?_⟩) hHeld ?_ ?_
      rotate_left
      ·rintro w' ⟨s0, s1, s2, s3⟩
       go_simp
       with_reducible rfl
      rotate_left
      ·simp only [Act.put, zA, zZ, zS, aI, aJ]
       rfl
      refine tkS (i := 1) (N := some 31) (v := ?_) (a' := ?_) rfl rfl (by kernel_rfl) (fun _ _ _ h => h) (Or.inl ⟨by rfl, ?_⟩) hHeld ?_ ?_
      rotate_left
      ·rintro w' ⟨s0, s1, s2, s3⟩
       go_simp
       with_reducible rfl
      rotate_left
      ·simp only [Act.put, zA, zZ, zS, aI, aJ]
       rfl
      refine puS (i := 2) (N := some 32) (v := ?_) (a' := ?_) rfl rfl (by kernel_rfl) (fun _ _ _ h => h) (Or.inl ⟨by rfl, ?_⟩) ?_ ?_
      rotate_left
      ·intro w'
       go_simp
       with_reducible rfl
      rotate_left
      ·simp only [Act.put, zA, zZ, zS, aI, aJ]
       rfl
      refine puS (i := 3) (N := some 33) (v := ?_) (a' := ?_) rfl rfl (by kernel_rfl) (fun _ _ _ h => h) (Or.inl ⟨by rfl, ?_⟩) ?_ ?_
      rotate_left
      ·intro w'
       go_simp
       with_reducible rfl
      rotate_left
      ·simp only [Act.put, zA, zZ, zS, aI, aJ]
       rfl
      refine puS (i := 4) (N := some 34) (v := ?_) (a' := ?_) rfl rfl (by kernel_rfl) (fun _ _ _ h => h) (Or.inl ⟨by rfl, ?_⟩) ?_ ?_
      rotate_left
      ·intro w'
       go_simp
       with_reducible rfl
      rotate_left
      ·simp only [Act.put, zA, zZ, zS, aI, aJ]
       rfl
      refine tkS (i := 5) (N := some 35) (v := ?_) (a' := ?_) rfl rfl (by kernel_rfl) (fun _ _ _ h => h) (Or.inl ⟨by rfl, ?_⟩) hHeld ?_ ?_
      rotate_left
      ·rintro w' ⟨s0, s1, s2, s3⟩
       go_simp
       with_reducible rfl
      rotate_left
      ·simp only [Act.put, zA, zZ, zS, aI, aJ]
       rfl
      refine tkS (i := 10) (N := some 40) (v := ?_) (a' := ?_) rfl rfl (by kernel_rfl) (fun _ _ _ h => h) (Or.inl ⟨by rfl, ?_⟩) hHeld ?_ ?_
      rotate_left
      ·rintro w' ⟨s0, s1, s2, s3⟩
       go_simp
       with_reducible rfl
      rotate_left
      ·simp only [Act.put, zA, zZ, zS, aI, aJ]
       rfl
      refine onS (i := 11) (N := some 41) rfl rfl (by kernel_rfl) (by decide) (fun K hK => ?_)
      refine oC Tryz.func73 (by kernel_rfl) rfl #[.agg #[.slice A4 L.l.length c4, .bool L.dn, .int .i64 L.fu, .int .i64 L.fa], .string p.1.f0] (by rfl) rfl rfl (by simp only [List.map_toArray, List.map_cons, List.map_nil]; rfl) ?_
      with_reducible refine (oP.calls A4 c4 L.l L.dn L.fu L.fa p.1.f0 D.1 D.2.1 D.2.2.1 D.2.2.2.1 D.2.2.2.2 _ (Sep.reads hHeld.2.2.2 mem2).2.2 (Sep.reads hHeld.2.2.2 mem2).2.1 (by rw [wP, ← HD.out])).mono ?_
      rintro e w5 ⟨v_, rfl, ho_, tX⟩
      obtain ⟨A6, c6, eo_⟩ := Kd.dZ ho_
      subst eo_
      have HN3 := aC.mk (Sep.jQ hHeld.2.2.2 tX ho_ o9)
      refine ⟨_, rfl, ?_⟩
      refine hK.out _ _ ⟨(fun j => ((Sep.step hHeld.2.2.2 tX)).cell (g := gv) dM j), (fun j => ((Sep.step hHeld.2.2.2 tX)).cell (g := gl) mem1 j), (by have h := (sV (HC5.out _ (Sep.reads (A := Aq) (Sep.step hHeld.2.2.2 tX) aP).2.2) HP0.out).1; rwa [show a5.add (0 * 4) = a5 by simp [Addr.add]] at h), (Sep.step hHeld.2.2.2 tX)⟩ (fun hHeld => ?_)
      clear hK K
      refine fE (a' := ?_) ?_ ?_
      rotate_left
      ·show Act.put _ (some 41) _ = _
       simp only [Act.put, zA, zZ, zS, aI, aJ]
       rfl
      refine puS (i := 12) (N := some 42) (v := ?_) (a' := ?_) rfl rfl (by kernel_rfl) (fun _ _ _ h => h) (Or.inl ⟨by rfl, ?_⟩) ?_ ?_
      rotate_left
      ·intro w'
       go_simp
       with_reducible rfl
      rotate_left
      ·simp only [Act.put, zA, zZ, zS, aI, aJ]
       rfl
      refine puS (i := 13) (N := some 43) (v := ?_) (a' := ?_) rfl rfl (by kernel_rfl) (fun _ _ _ h => h) (Or.inl ⟨by rfl, ?_⟩) ?_ ?_
      rotate_left
      ·intro w'
       go_simp
       with_reducible rfl
      rotate_left
      ·simp only [Act.put, zA, zZ, zS, aI, aJ]
       rfl
      refine laS (i := 14) (N := some 44) rfl rfl (by kernel_rfl) (by decide) (fun K hK => ?_)
      refine sD Tryz.func72 (by kernel_rfl) rfl #[.pointer (some ⟨gl, 0, none⟩), .agg #[.slice A6 D.1.length c6, .bool D.2.1, .int .i64 D.2.2.1, .int .i64 D.2.2.2.1], .int .i64 D.2.2.2.2] (by rfl) rfl rfl (by simp only [List.map_toArray, List.map_cons, List.map_nil]; rfl) ?_
      refine (pV gl A4 c4 L A6 c6 D (rs := lV A6 c6 D.1 :: (row dX 139 (.slice Aq (ps).length cq) ps :: row k67 67 (.slice A4 (L.l).length c4) L.l :: box g0 [.slice A0 l.length c0, .bool dn, .int .i64 fu, .int .i64 fa, .int .i64 size, .int .u64 fr, .int .u64 (n : Int), .bool false] 30 :: box g1 [.int .u64 q] 28 :: box gv [.pointer (some ⟨gl, 0, none⟩)] 131 :: ts)) ⟨HN3.out.iY⟩).mono ?_
      rintro e w6 ⟨hE, H4⟩
      rcases hE with ⟨hz, rfl⟩ | ⟨hnz, rfl⟩
      rotate_left
      ·refine .inr ⟨_, rfl, ?_⟩
       have hV : R = (chg L D, D.2.2.2.2) := by rw [HRV.out, HDA.out, HDS.out, if_neg hnz, if_neg hnz]
       show _ ∧ _
       rw [hV]
       exact ⟨rfl, .inr ⟨hnz, rfl⟩, A6, c6, ⟨(Sep.drop2 (Sep.iJ H4.out))⟩⟩
      refine .inl ⟨_, rfl, ?_⟩
      refine hK.out _ _ ?_
      clear hK K
      refine fE (a' := ?_) ?_ ?_
      rotate_left
      ·show Act.put _ (some 44) _ = _
       simp only [Act.put, zA, zZ, zS, aI, aJ]
       rfl
      refine iT (by kernel_rfl) ?_
      have hc6 : (rest.length : Int) ≤ (c5 : Int) := by omega
      have hln : (rest.drop 1).length = rest.length - 1 := List.length_drop
      go_wp2
      refine ⟨⟨chg L D, rest.drop 1, some (a5.add (1 * 4)), c5 - 1, A6, c6, ?_, by omega, by omega, ⟨fun p hp => qet.out p (List.mem_of_mem_drop hp)⟩, ⟨fun W h => ?_⟩, ⟨?_⟩, ⟨(Sep.rX (Sep.iR (Sep.iR (Sep.rX (Sep.rX (Sep.rX (Sep.iJ H4.out)))))))⟩⟩, ?_⟩
      ·rw [hln]
       rfl
      ·rw [hln]
       exact xY (HC5.out W h) (by omega)
      ·rw [HDA.out, HDS.out, if_pos hz]
      ·show rest.length - 1 < rest.length
       omega
     ·
      have q2 := decide_eq_false hq2
      have HV : aC (R = (yO L rest, 0)) := ⟨by rw [HRV.out, HDA.out, TT HP2.out hq2, if_pos rfl]⟩
      have q6 : (0 : Int) < (rest.length : Int) := by omega
      go_upto_region 3 with fail
      go_quiet (fail)
      clear h0 h1 h2 h3 k4
      go_upto_region 7 with fail
      refine IV (rs := (row dX 139 (.slice Aq (ps).length cq) ps :: box gl [.slice A4 L.l.length c4, .bool L.dn, .int .i64 L.fu, .int .i64 L.fa, .int .i64 L.size, .int .u64 L.fr, .int .u64 L.nx, .bool L.br] 134 :: row k67 67 (.slice A4 (L.l).length c4) L.l :: box g0 [.slice A0 l.length c0, .bool dn, .int .i64 fu, .int .i64 fa, .int .i64 size, .int .u64 fr, .int .u64 (n : Int), .bool false] 30 :: box g1 [.int .u64 q] 28 :: box gv [.pointer (some ⟨gl, 0, none⟩)] 131 :: ts)) (Sep.drewN H.out _) ?_
      intro wd3 n_
      clear H c_l c_m c_t c_v
      have H := n_
      clear n_
      have c_l := H.out.cell (g := gl) mem1
      have c_m := H.out.cell (g := g0) mem3
      have c_t := H.out.cell (g := g1) bT
      have c_v := H.out.cell (g := gv) dM
      clear c_l c_m c_t c_v
      have c_l := H.out.cell (g := gl) mem1
      have z_l := H.out.frozen (g := gl) mem1
      have c_m := H.out.cell (g := g0) mem3
      have c_t := H.out.cell (g := g1) bT
      have c_v := H.out.cell (g := gv) dM
      have h9 : wd3.cell? ⟨a5.block, a5.off + 3, none⟩ = some (.int .u64 (p.2 : Int)) := by
       have h := (sV (HC5.out _ (H.out.reads (A := Aq) aP).2.2) HP0.out).2.2.2
       rwa [show a5.add (0 * 4) = a5 by simp [Addr.add]] at h
      have hl00 : 0 < rest.length := by omega
      go_region
      clear h9
      refine qI (rs := (row dX 139 (.slice Aq (ps).length cq) ps :: box gl [.slice A4 L.l.length c4, .bool L.dn, .int .i64 L.fu, .int .i64 L.fa, .int .i64 L.size, .int .u64 (p.2 : Int), .int .u64 L.nx, .bool L.br] 134 :: row k67 67 (.slice A4 (L.l).length c4) L.l :: box g0 [.slice A0 l.length c0, .bool dn, .int .i64 fu, .int .i64 fa, .int .i64 size, .int .u64 fr, .int .u64 (n : Int), .bool false] 30 :: box g1 [.int .u64 q] 28 :: box gv [.pointer (some ⟨gl, 0, none⟩)] 131 :: ts)) (Sep.drew (Sep.set1 H.out 5 (.int .u64 (p.2 : Int)) rfl)) ?_
      intro wd4 n_
      clear H c_l z_l c_m c_t c_v
      have H := n_
      clear n_
      have c_l := H.out.cell (g := gl) mem1
      have z_l := H.out.frozen (g := gl) mem1
      have c_m := H.out.cell (g := g0) mem3
      have c_t := H.out.cell (g := g1) bT
      have c_v := H.out.cell (g := gv) dM
      go_wp2_with fail
      go_end0
      have hfr : yO L rest = { L with fr := (p.2 : Int) } := by
       cases rest with
       | nil => cases HP0.out
       | cons a r => have := HP0.out; simp only [List.getElem?_cons_zero, Option.some.injEq] at this; subst this; rfl
      rw [HV.out, hfr]
      exact ⟨.inl ⟨rfl, rfl⟩, A4, c4, ⟨(Sep.eG H.out)⟩⟩
    ·
     have q1 : decide ((1 : Int) < (rest.length : Int)) = false := decide_eq_false (by omega)
     have HV : aC (R = (yO L rest, 0)) := ⟨by rw [HRV.out, HDA.out, TS hl1, if_pos rfl]⟩
     by_cases hl0 : 0 < rest.length
     ·
      obtain ⟨p, hp⟩ : ∃ p, rest[0]? = some p := ⟨_, List.getElem?_eq_getElem (by omega)⟩
      obtain ⟨a5, e1⟩ := D9 (HC5.out _ (H.out.reads (A := Aq) aP).2.2) (by omega)
      subst e1
      obtain ⟨h0, h1, h2, h3⟩ := sV (HC5.out _ (H.out.reads (A := Aq) aP).2.2) hp
      have ea : a5.add 0 = a5 := by simp [Addr.add]
      simp only [Nat.zero_mul, ea] at h0 h1 h2 h3
      have HP0 := aC.mk hp
      clear ea
      clear hp
      have q5 : (0 : Int) < (rest.length : Int) := by omega
      go_upto_region 3 with fail
      go_quiet (fail)
      clear h0 h1 h2 h3
      go_upto_region 7 with fail
      refine IV (rs := (row dX 139 (.slice Aq (ps).length cq) ps :: box gl [.slice A4 L.l.length c4, .bool L.dn, .int .i64 L.fu, .int .i64 L.fa, .int .i64 L.size, .int .u64 L.fr, .int .u64 L.nx, .bool L.br] 134 :: row k67 67 (.slice A4 (L.l).length c4) L.l :: box g0 [.slice A0 l.length c0, .bool dn, .int .i64 fu, .int .i64 fa, .int .i64 size, .int .u64 fr, .int .u64 (n : Int), .bool false] 30 :: box g1 [.int .u64 q] 28 :: box gv [.pointer (some ⟨gl, 0, none⟩)] 131 :: ts)) (Sep.drewN H.out _) ?_
      intro wd5 n_
      clear H c_l c_m c_t c_v
      have H := n_
      clear n_
      have c_l := H.out.cell (g := gl) mem1
      have c_m := H.out.cell (g := g0) mem3
      have c_t := H.out.cell (g := g1) bT
      have c_v := H.out.cell (g := gv) dM
      clear c_l c_m c_t c_v
      have c_l := H.out.cell (g := gl) mem1
      have z_l := H.out.frozen (g := gl) mem1
      have c_m := H.out.cell (g := g0) mem3
      have c_t := H.out.cell (g := g1) bT
      have c_v := H.out.cell (g := gv) dM
      have h9 : wd5.cell? ⟨a5.block, a5.off + 3, none⟩ = some (.int .u64 (p.2 : Int)) := by
       have h := (sV (HC5.out _ (H.out.reads (A := Aq) aP).2.2) HP0.out).2.2.2
       rwa [show a5.add (0 * 4) = a5 by simp [Addr.add]] at h
      have hl00 : 0 < rest.length := by omega
      go_region
      clear h9
      refine qI (rs := (row dX 139 (.slice Aq (ps).length cq) ps :: box gl [.slice A4 L.l.length c4, .bool L.dn, .int .i64 L.fu, .int .i64 L.fa, .int .i64 L.size, .int .u64 (p.2 : Int), .int .u64 L.nx, .bool L.br] 134 :: row k67 67 (.slice A4 (L.l).length c4) L.l :: box g0 [.slice A0 l.length c0, .bool dn, .int .i64 fu, .int .i64 fa, .int .i64 size, .int .u64 fr, .int .u64 (n : Int), .bool false] 30 :: box g1 [.int .u64 q] 28 :: box gv [.pointer (some ⟨gl, 0, none⟩)] 131 :: ts)) (Sep.drew (Sep.set1 H.out 5 (.int .u64 (p.2 : Int)) rfl)) ?_
      intro wd6 n_
      clear H c_l z_l c_m c_t c_v
      have H := n_
      clear n_
      have c_l := H.out.cell (g := gl) mem1
      have z_l := H.out.frozen (g := gl) mem1
      have c_m := H.out.cell (g := g0) mem3
      have c_t := H.out.cell (g := g1) bT
      have c_v := H.out.cell (g := gv) dM
      go_wp2_with fail
      go_end0
      have hfr : yO L rest = { L with fr := (p.2 : Int) } := by
       cases rest with
       | nil => cases HP0.out
       | cons a r => have := HP0.out; simp only [List.getElem?_cons_zero, Option.some.injEq] at this; subst this; rfl
      rw [HV.out, hfr]
      exact ⟨.inl ⟨rfl, rfl⟩, A4, c4, ⟨(Sep.eG H.out)⟩⟩
     ·
      have hre : rest = [] := List.length_eq_zero_iff.1 (by omega)
      have HRE : aC (yO L rest = L) := ⟨by rw [hre]; rfl⟩
      have q5 : ¬ (0 : Int) < (rest.length : Int) := by omega
      clear hre
      go_upto_region 3 with fail
      go_quiet (fail)
      go_wp2_with fail
      go_end0
      rw [HV.out, HRE.out]
      exact ⟨.inl ⟨rfl, rfl⟩, A4, c4, ⟨(Sep.eG (Sep.drewN H.out _))⟩⟩
end Go.Proofs.U
