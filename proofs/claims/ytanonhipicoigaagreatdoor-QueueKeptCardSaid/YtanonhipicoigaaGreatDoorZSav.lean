import Derived.Test.YtanonhipicoigaaGreatDoorZSat
import Derived.Test.YtanonhipicoigaaGreatDoorZSau
import Derived.Test.YtanonhipicoigaaGreatDoorRows
import Derived.Test.YtanonhipicoigaaGreatDoorZSal
import Derived.ProofKit
import Derived.LaidMore
import Derived.LaidLaws
import Derived.MakeChecks
import Derived.Stop.Joined
import Derived.Test.YtanonhipicoigaaGreatDoorZSag
set_option linter.unusedVariables false
set_option linter.unusedSimpArgs false
set_option maxRecDepth 100000
namespace Go.Proofs.U
open Go.RowKit Go.Proofs.YW.PrintWords Go.Proofs.YW.PrintLast Go.Proofs.YW.PrintMore Go.Proofs.Sp Go.Proofs.fG
structure KAt (size mst : Int) (Q : Qu) (wa : List S41) : Prop where
 ex : ∃ ds n m, QW Q ds n m
 mo : Q.most = mst
 wa : wa = strip Q.es
theorem KAt.okr {size mst : Int} {Q : Qu} {wa : List S41} (h : KAt size mst Q wa) : okR Q := by
 obtain ⟨ds, n, m, hw⟩ := h.ex
 exact hw.okR
theorem KAt.len {size mst : Int} {Q : Qu} {wa : List S41} (h : KAt size mst Q wa) : wa.length ≤ 1024 := by
 obtain ⟨ds, n, m, hw⟩ := h.ex
 rw [h.wa, y7]
 exact hw.len
theorem KAt.step {size mst : Int} {Q Q2 : Qu} {wa : List S41} {k sq : Int} {sd : ByteArray} {X : S41} (h : KAt size mst Q wa) (hd : doQ Q k sd sq = (Q2, X, 0)) : KAt size mst Q2 (kP wa k sd sq X.f0) := by
 obtain ⟨ds, n, m, hw⟩ := h.ex
 obtain ⟨ds', n', m', h1, h2, h3, _⟩ := hw.step (k := k) (sd := sd) (sq := sq) (by rw [hd])
 rw [hd] at h1 h2 h3
 exact ⟨⟨ds', n', m', h1⟩, h3.trans h.mo, by rw [h.wa, h2]⟩
theorem KAt.last {size mst : Int} {Q : Qu} {wa : List S41} (h : KAt size mst Q wa) (fu fa : Int) (ks : List Int) (k : Int) (sd : ByteArray) (sq : Int) :
  ∃ R X e, doQ ⟨⟨Q.L.l, Q.L.dn, fu, fa, Q.L.size, Q.L.fr, Q.L.nx, Q.L.br⟩, Q.es, Q.most⟩ k sd sq = (R, X, e) ∧ bF R.L.l = true ∧ (e = 0 → QB (dG R.L.l ks) (kP wa k sd sq X.f0)) ∧
   (e ≠ 0 → QB (dG R.L.l ks) wa ∨ (QB (dG R.L.l ks) (kP wa k sd sq Q.L.nx) ∧ (e = 17 ∨ e = 18))) := by
 obtain ⟨ds, n, m, hw⟩ := h.ex
 obtain ⟨⟨R, X, e⟩, h1, h2, h3, h4⟩ := hw.last fu fa ks k sd sq
 rw [← h.wa] at h3 h4
 exact ⟨R, X, e, h1.symm, h2, h3, h4⟩
set_option maxHeartbeats 16000000 in
theorem qaG (size most : Int) (As : Option Addr) (cs : Nat) (steps : List S84) (fuse fault : Int) (k : Int) (sd : ByteArray) (sq : Int) (Ak : Option Addr) (ck : Nat) (ks : List Int) (w : World) (hr : Kd.C k84 w As steps.length steps)
  (hst : ∀ i : Nat, i < steps.length → 0 ≤ (uT steps (i : Int)).f2 ∧ (uT steps (i : Int)).f2 < 18446744073709551616) (hq0 : 0 ≤ sq) (hq1 : sq < 18446744073709551616) (hrk : Kd.C (Kd.int .i64) w Ak ks.length ks) (hck : ks.length ≤ ck) (hG : Gl w) :
  Calls Tryz.prog 16 #[.int .i64 size, .int .i64 most, .slice As steps.length cs, .int .i64 fuse, .int .i64 fault, .agg #[.int .u8 k, .string sd, .int .u64 sq], .slice Ak ks.length ck] w fun e w' => e = .returned (.bool true) ∧ Below w.heap.size w w' := by
 have HRp := aA.mk hr
 have HST := aA.mk hst
 have HQ := aA.mk (And.intro hq0 hq1)
 have HRk := aA.mk hrk
 have HCk := aA.mk hck
 have HG := aA.mk hG
 have HDL : aA (steps.length ≤ 9223372036854775807) := ⟨Kd.WE hr⟩
 clear hr hst hq0 hq1 hrk hck hG
 have H := aA.mk (Sep.start w)
 go_enter Tryz.func16, Tryz.ntmps16
 go_wp2_with (first
 |((with_reducible refine aP (N := 12) rfl ?_);
   refine bG rfl H (cs := [.int .u8 k, .string sd, .int .u64 sq]) (t := 84) ?hr ?_;
   (case hr => first | (go_simp; done) | (go_simp; rfl));
   intro gt wd1 n_;
   simp only [Act.put, zA, zZ, zS];
   clear H;
   have H := n_;
   clear n_;
   have c_t := H.out.cell (g := gt) aJ)
 |fail)
 refine ((WB _ (HG.out.below H.out.below)).mono ?_)
 rintro e wd2 ⟨rfl, hb_⟩
 have n_ : aA (Sep w wd2 [box gt [.int .u8 k, .string sd, .int .u64 sq] 84]) := ⟨H.out.step hb_⟩
 clear H c_t
 have H := n_
 clear n_
 have c_t := H.out.cell (g := gt) aJ
 clear hb_
 go_wp2_with fail
 refine ((kG.calls [] false (-1) (-1) _ rfl).mono ?_)
 rintro e wd3 ⟨v_, rfl, ho_, hb_⟩
 obtain ⟨Af, cf, eo_⟩ := Kd.dQ ho_
 subst eo_
 have n_ : aA (Sep w wd3 [row k67 67 (.slice Af (([] : List S67)).length cf) (([] : List S67)), box gt [.int .u8 k, .string sd, .int .u64 sq] 84]) := ⟨Sep.iY H.out hb_ ho_ lJ⟩
 clear H c_t
 have H := n_
 clear n_
 have c_t := H.out.cell (g := gt) mem1
 clear ho_ hb_
 have HOP := aA.mk (fun A c w hr hc hG => vU A c [] false (-1) (-1) size most w hr hc hG)
 by_cases hm : (most < 1 ∨ 1024 < most) ∨ (size < 1 ∨ 262144 < size)
 ·
  rw [show kN [] false (-1) (-1) size most = (Qz, 2) from hm.elim LJ V6] at HOP
  dsimp only at HOP
  clear hm
  go_wp2_with fail
  refine ((HOP.out _ _ _ (H.out.reads aJ).2.2 (H.out.reads aJ).2.1 (HG.out.below H.out.below)).mono ?_)
  rintro e wd4 ⟨A1, c1, B1, d1, rfl, HJ⟩
  have n_ : aA (Sep w wd4 [row k67 67 (.slice A1 (Qz.L.l).length c1) Qz.L.l, row k41 41 (.slice B1 (Qz.es).length d1) Qz.es, row k67 67 (.slice Af (([] : List S67)).length cf) (([] : List S67)), box gt [.int .u8 k, .string sd, .int .u64 sq] 84]) := ⟨eY H.out HJ.out⟩
  clear H c_t
  have H := n_
  clear n_
  have c_t := H.out.cell (g := gt) mem3
  clear HJ
  simp only [qc, lgc, List.cons_append, List.nil_append]
  go_wp2_with (first
 |((with_reducible refine aP (N := 15) rfl ?_);
   refine bG rfl H (cs := [.slice none 0 0, .bool false, .int .i64 0, .int .i64 0, .int .i64 0, .int .u64 0, .int .u64 0, .bool false, .slice none 0 0, .int .i64 0]) (t := 33) ?hr ?_;
   (case hr => first | (go_simp; done) | (go_simp; rfl));
   intro gq wd5 n_;
   simp only [Act.put, zA, zZ, zS];
   clear H c_t;
   have H := n_;
   clear n_;
   have c_q := H.out.cell (g := gq) aJ;
   have z_q := H.out.frozen (g := gq) aJ;
   have c_t := H.out.cell (g := gt) bK)
 |((with_reducible refine aN (t := 33) (p := 15) rfl ?_);
   refine aZ (rs1 := [box gq [.slice A1 Qz.L.l.length c1, .bool Qz.L.dn, .int .i64 Qz.L.fu, .int .i64 Qz.L.fa, .int .i64 Qz.L.size, .int .u64 Qz.L.fr, .int .u64 Qz.L.nx, .bool Qz.L.br, .slice B1 Qz.es.length d1, .int .i64 Qz.most] 33, row k67 67 (.slice A1 (Qz.L.l).length c1) Qz.L.l, row k41 41 (.slice B1 (Qz.es).length d1) Qz.es, row k67 67 (.slice Af (([] : List S67)).length cf) (([] : List S67)), box gt [.int .u8 k, .string sd, .int .u64 sq] 84]) rfl (t := 33) (p := 15) rfl rfl ?hr (H1 := (Sep.set0 (Sep.set0 (Sep.set0 (Sep.set0 (Sep.set0 (Sep.set0 (Sep.set0 (Sep.set0 (Sep.set0 (Sep.set0 H.out 0 (.slice A1 Qz.L.l.length c1) rfl) 1 (.bool Qz.L.dn) rfl) 2 (.int .i64 Qz.L.fu) rfl) 3 (.int .i64 Qz.L.fa) rfl) 4 (.int .i64 Qz.L.size) rfl) 5 (.int .u64 Qz.L.fr) rfl) 6 (.int .u64 Qz.L.nx) rfl) 7 (.bool Qz.L.br) rfl) 8 (.slice B1 Qz.es.length d1) rfl) 9 (.int .i64 Qz.most) rfl)) ?_;
   (case hr => first | (go_simp; done) | (go_simp; rfl));
   intro wd6 n_;
   clear H c_q z_q c_t;
   have H := n_;
   clear n_;
   have c_q := H.out.cell (g := gq) aJ;
   have z_q := H.out.frozen (g := gq) aJ;
   have c_t := H.out.cell (g := gt) bK)
 |fail)
  go_wp2_with fail
  go_ret
  exact ⟨by first | rfl | simp, H.out.below⟩
 ·
  rw [NY (by omega) (by omega) (by omega) (by omega)] at HOP
  obtain ⟨Q0, hQ0⟩ : ∃ Q0 : Qu, Q0 = ⟨L0s size, [], most⟩ := ⟨_, rfl⟩
  have HF0 : aA (KAt size most Q0 []) := ⟨by rw [hQ0]; exact ⟨⟨[], 1, 1, qcd (by omega) (by omega) (by omega) (by omega)⟩, rfl, rfl⟩⟩
  have HM0 : aA ((1 ≤ most ∧ most ≤ 1024) ∧ (1 ≤ size ∧ size ≤ 262144)) := ⟨by omega⟩
  rw [← hQ0] at HOP
  dsimp only at HOP
  clear hm hQ0
  go_wp2_with fail
  refine ((HOP.out _ _ _ (H.out.reads aJ).2.2 (H.out.reads aJ).2.1 (HG.out.below H.out.below)).mono ?_)
  rintro e wd7 ⟨A0, c0, B0, d0, rfl, HJ⟩
  have n_ : aA (Sep w wd7 [row k67 67 (.slice A0 (Q0.L.l).length c0) Q0.L.l, row k41 41 (.slice B0 (Q0.es).length d0) Q0.es, row k67 67 (.slice Af (([] : List S67)).length cf) (([] : List S67)), box gt [.int .u8 k, .string sd, .int .u64 sq] 84]) := ⟨eY H.out HJ.out⟩
  clear H c_t
  have H := n_
  clear n_
  have c_t := H.out.cell (g := gt) mem3
  clear HJ
  simp only [qc, lgc, List.cons_append, List.nil_append]
  have n_ : aA (Sep w wd7 [row k67 67 (.slice A0 (Q0.L.l).length c0) Q0.L.l, row k41 41 (.slice B0 (Q0.es).length d0) Q0.es, box gt [.int .u8 k, .string sd, .int .u64 sq] 84]) := ⟨Sep.drop2 H.out⟩
  clear H c_t
  have H := n_
  clear n_
  have c_t := H.out.cell (g := gt) mem2
  clear HOP
  go_wp2_with (first
 |((with_reducible refine aP (N := 15) rfl ?_);
   refine bG rfl H (cs := [.slice none 0 0, .bool false, .int .i64 0, .int .i64 0, .int .i64 0, .int .u64 0, .int .u64 0, .bool false, .slice none 0 0, .int .i64 0]) (t := 33) ?hr ?_;
   (case hr => first | (go_simp; done) | (go_simp; rfl));
   intro gq wd8 n_;
   simp only [Act.put, zA, zZ, zS];
   clear H c_t;
   have H := n_;
   clear n_;
   have c_q := H.out.cell (g := gq) aJ;
   have z_q := H.out.frozen (g := gq) aJ;
   have c_t := H.out.cell (g := gt) mem3)
 |((with_reducible refine aN (t := 33) (p := 15) rfl ?_);
   refine aZ (rs1 := [box gq [.slice A0 Q0.L.l.length c0, .bool Q0.L.dn, .int .i64 Q0.L.fu, .int .i64 Q0.L.fa, .int .i64 Q0.L.size, .int .u64 Q0.L.fr, .int .u64 Q0.L.nx, .bool Q0.L.br, .slice B0 Q0.es.length d0, .int .i64 Q0.most] 33, row k67 67 (.slice A0 (Q0.L.l).length c0) Q0.L.l, row k41 41 (.slice B0 (Q0.es).length d0) Q0.es, box gt [.int .u8 k, .string sd, .int .u64 sq] 84]) rfl (t := 33) (p := 15) rfl rfl ?hr (H1 := (Sep.set0 (Sep.set0 (Sep.set0 (Sep.set0 (Sep.set0 (Sep.set0 (Sep.set0 (Sep.set0 (Sep.set0 (Sep.set0 H.out 0 (.slice A0 Q0.L.l.length c0) rfl) 1 (.bool Q0.L.dn) rfl) 2 (.int .i64 Q0.L.fu) rfl) 3 (.int .i64 Q0.L.fa) rfl) 4 (.int .i64 Q0.L.size) rfl) 5 (.int .u64 Q0.L.fr) rfl) 6 (.int .u64 Q0.L.nx) rfl) 7 (.bool Q0.L.br) rfl) 8 (.slice B0 Q0.es.length d0) rfl) 9 (.int .i64 Q0.most) rfl)) ?_;
   (case hr => first | (go_simp; done) | (go_simp; rfl));
   intro wd9 n_;
   clear H c_q z_q c_t;
   have H := n_;
   clear n_;
   have c_q := H.out.cell (g := gq) aJ;
   have z_q := H.out.frozen (g := gq) aJ;
   have c_t := H.out.cell (g := gt) mem3)
 |fail)
  go_loopw [17, 19, 20, 21, 22, 45] (fun v17 v19 v20 v21 v22 v45 wr => ∃ (i : Nat) (Q : Qu) (wa : List S41) (A : Option Addr) (c : Nat) (B : Option Addr) (d : Nat) (Ao : Option Addr) (co : Nat), v45 = .int .i64 (i : Int) ∧ v17 = .slice Ao wa.length co ∧ i ≤ steps.length ∧ aA (KAt size most Q wa) ∧ aA (Sep w wr [box gq [.slice A Q.L.l.length c, .bool Q.L.dn, .int .i64 Q.L.fu, .int .i64 Q.L.fa, .int .i64 Q.L.size, .int .u64 Q.L.fr, .int .u64 Q.L.nx, .bool Q.L.br, .slice B Q.es.length d, .int .i64 Q.most] 33, row k67 67 (.slice A (Q.L.l).length c) Q.L.l, row k41 41 (.slice B (Q.es).length d) Q.es, row k41 41 (.slice Ao (wa).length co) wa, box gt [.int .u8 k, .string sd, .int .u64 sq] 84])) (fun _ _ _ _ _ v45 _ => steps.length - (intOf v45).toNat)
  case atStart => exact ⟨0, Q0, [], A0, c0, B0, d0, none, 0, rfl, rfl, Nat.zero_le _, HF0, ⟨(Sep.gI (Sep.gI (Sep.gI (Sep.iP (Sep.gI (Sep.eG (d := k41) (e := 41) H.out))))))⟩⟩
  case round =>
   clear H c_q z_q c_t
   obtain ⟨i, Q, wa, A, c, B, d, Ao, co, rfl, rfl, hi, HF, H⟩ := hrel
   have c_q := H.out.cell (g := gq) aJ
   have z_q := H.out.frozen (g := gq) aJ
   have c_t := H.out.cell (g := gt) bK
   have HOK := aA.mk HF.out.okr
   have HWL := aA.mk HF.out.len
   by_cases hil : i < steps.length
   ·
    obtain ⟨x, hx⟩ : ∃ x, x = uT steps (i : Int) := ⟨_, rfl⟩
    have hxr := HST.out i hil
    obtain ⟨ad, e1, h0, h1, h2⟩ := qeM (H.out.came HRp.out) (i : Int) (by omega) (by omega)
    subst e1
    simp only [Int.toNat_natCast] at h0 h1 h2
    rw [← hx] at h0 h1 h2 hxr
    clear hx
    have hi2 : (i : Int) < (steps.length : Int) := by omega
    have hi0 : (0 : Int) ≤ (i : Int) := by omega
    have hw3 : wrap64 ((i : Int) + 1) = ((i + 1 : Nat) : Int) := by
     have := HDL.out
     unfold wrap64
     omega
    obtain ⟨Q2, X, e, hD⟩ : ∃ Q2 X e, doQ Q x.f0 x.f1 x.f2 = (Q2, X, e) := ⟨_, _, _, rfl⟩
    have HDO := aA.mk (fun A c B d w hr hc hre hce hG h0 h1 h2 => qbR A c B d Q x.f0 x.f1 x.f2 w hr hc hre hce hG h0 h1 h2 hxr.1 hxr.2)
    rw [hD] at HDO
    dsimp only at HDO
    have HDV := aA.mk hD
    clear hD hxr
    go_wp2_with (first
 |((with_reducible refine aP (N := 19) rfl ?_);
   refine bG rfl H (cs := [.int .u8 0, .string ⟨#[]⟩, .int .u64 0]) (t := 84) ?hr ?_;
   (case hr => first | (go_simp; done) | (go_simp; rfl));
   intro gs FC n_;
   simp only [Act.put, zA, zZ, zS];
   clear H c_q z_q c_t;
   have H := n_;
   clear n_;
   have c_s := H.out.cell (g := gs) aJ;
   have z_s := H.out.frozen (g := gs) aJ;
   have c_q := H.out.cell (g := gq) mem1;
   have c_t := H.out.cell (g := gt) dJ)
 |((with_reducible refine aN (t := 84) (p := 19) rfl ?_);
   refine aZ (rs1 := [box gs [.int .u8 x.f0, .string x.f1, .int .u64 x.f2] 84, box gq [.slice A Q.L.l.length c, .bool Q.L.dn, .int .i64 Q.L.fu, .int .i64 Q.L.fa, .int .i64 Q.L.size, .int .u64 Q.L.fr, .int .u64 Q.L.nx, .bool Q.L.br, .slice B Q.es.length d, .int .i64 Q.most] 33, row k67 67 (.slice A (Q.L.l).length c) Q.L.l, row k41 41 (.slice B (Q.es).length d) Q.es, row k41 41 (.slice Ao (wa).length co) wa, box gt [.int .u8 k, .string sd, .int .u64 sq] 84]) rfl (t := 84) (p := 19) rfl rfl ?hr (H1 := (Sep.set0 (Sep.set0 (Sep.set0 H.out 0 (.int .u8 x.f0) rfl) 1 (.string x.f1) rfl) 2 (.int .u64 x.f2) rfl)) ?_;
   (case hr => first | (go_simp; done) | (go_simp; rfl));
   intro MH n_;
   clear H c_s z_s c_q c_t;
   have H := n_;
   clear n_;
   have c_s := H.out.cell (g := gs) aJ;
   have z_s := H.out.frozen (g := gs) aJ;
   have c_q := H.out.cell (g := gq) mem1;
   have c_t := H.out.cell (g := gt) dJ;
   clear h0 h1 h2)
 |fail)
    refine ((HDO.out _ _ _ _ _ (H.out.reads mem2).2.2 (H.out.reads mem2).2.1 (H.out.reads mem3).2.2 (H.out.reads mem3).2.1 (HG.out.below H.out.below) HOK.out.1 HOK.out.2.1 HOK.out.2.2).mono ?_)
    rintro e DU ⟨A2, c2, B2, d2, rfl, HJ⟩
    have n_ : aA (Sep w DU [row k67 67 (.slice A2 (Q2.L.l).length c2) Q2.L.l, row k41 41 (.slice B2 (Q2.es).length d2) Q2.es, box gs [.int .u8 x.f0, .string x.f1, .int .u64 x.f2] 84, box gq [.slice A Q.L.l.length c, .bool Q.L.dn, .int .i64 Q.L.fu, .int .i64 Q.L.fa, .int .i64 Q.L.size, .int .u64 Q.L.fr, .int .u64 Q.L.nx, .bool Q.L.br, .slice B Q.es.length d, .int .i64 Q.most] 33, row k67 67 (.slice A (Q.L.l).length c) Q.L.l, row k41 41 (.slice B (Q.es).length d) Q.es, row k41 41 (.slice Ao (wa).length co) wa, box gt [.int .u8 k, .string sd, .int .u64 sq] 84]) := ⟨eY H.out HJ.out⟩
    clear H c_s z_s c_q c_t
    have H := n_
    clear n_
    have c_s := H.out.cell (g := gs) mem2
    have z_s := H.out.frozen (g := gs) mem2
    have c_q := H.out.cell (g := gq) mem3
    have c_t := H.out.cell (g := gt) sD
    clear HJ
    simp only [qc, lgc, List.cons_append, List.nil_append]
    clear HDO
    by_cases he : e = 0
    ·
     subst he
     have HF2 := aA.mk (HF.out.step HDV.out)
     have n_ : aA (Sep w DU [row k67 67 (.slice A2 (Q2.L.l).length c2) Q2.L.l, row k41 41 (.slice B2 (Q2.es).length d2) Q2.es, box gs [.int .u8 x.f0, .string x.f1, .int .u64 x.f2] 84, box gq [.slice A Q.L.l.length c, .bool Q.L.dn, .int .i64 Q.L.fu, .int .i64 Q.L.fa, .int .i64 Q.L.size, .int .u64 Q.L.fr, .int .u64 Q.L.nx, .bool Q.L.br, .slice B Q.es.length d, .int .i64 Q.most] 33, row k41 41 (.slice B (Q.es).length d) Q.es, row k41 41 (.slice Ao (wa).length co) wa, box gt [.int .u8 k, .string sd, .int .u64 sq] 84]) := ⟨Sep.jO H.out⟩
     clear H c_s z_s c_q c_t
     have H := n_
     clear n_
     have c_s := H.out.cell (g := gs) mem2
     have z_s := H.out.frozen (g := gs) mem2
     have c_q := H.out.cell (g := gq) mem3
     have c_t := H.out.cell (g := gt) jC
     have n_ : aA (Sep w DU [row k67 67 (.slice A2 (Q2.L.l).length c2) Q2.L.l, row k41 41 (.slice B2 (Q2.es).length d2) Q2.es, box gs [.int .u8 x.f0, .string x.f1, .int .u64 x.f2] 84, box gq [.slice A Q.L.l.length c, .bool Q.L.dn, .int .i64 Q.L.fu, .int .i64 Q.L.fa, .int .i64 Q.L.size, .int .u64 Q.L.fr, .int .u64 Q.L.nx, .bool Q.L.br, .slice B Q.es.length d, .int .i64 Q.most] 33, row k41 41 (.slice Ao (wa).length co) wa, box gt [.int .u8 k, .string sd, .int .u64 sq] 84]) := ⟨Sep.jO H.out⟩
     clear H c_s z_s c_q c_t
     have H := n_
     clear n_
     have c_s := H.out.cell (g := gs) mem2
     have z_s := H.out.frozen (g := gs) mem2
     have c_q := H.out.cell (g := gq) mem3
     have c_t := H.out.cell (g := gt) dJ
     clear c_s z_s c_q c_t
     have c_s := H.out.cell (g := gs) mem2
     have c_q := H.out.cell (g := gq) mem3
     have z_q := H.out.frozen (g := gq) mem3
     have c_t := H.out.cell (g := gt) dJ
     go_wp2_with (first
 |((with_reducible refine aP (N := 20) rfl ?_);
   refine bG rfl H (cs := [.slice none 0 0, .bool false, .int .i64 0, .int .i64 0, .int .i64 0, .int .u64 0, .int .u64 0, .bool false, .slice none 0 0, .int .i64 0]) (t := 33) ?hr ?_;
   (case hr => first | (go_simp; done) | (go_simp; rfl));
   intro gy KI n_;
   simp only [Act.put, zA, zZ, zS];
   clear H c_s c_q z_q c_t;
   have H := n_;
   clear n_;
   have c_y := H.out.cell (g := gy) aJ;
   have z_y := H.out.frozen (g := gy) aJ;
   have c_s := H.out.cell (g := gs) mem3;
   have c_q := H.out.cell (g := gq) bK;
   have z_q := H.out.frozen (g := gq) bK;
   have c_t := H.out.cell (g := gt) jC)
 |((with_reducible refine aP (N := 21) rfl ?_);
   refine bG rfl H (cs := [.int .u64 0, .string ⟨#[]⟩, .bool false]) (t := 41) ?hr ?_;
   (case hr => first | (go_simp; done) | (go_simp; rfl));
   intro gx U2 n_;
   simp only [Act.put, zA, zZ, zS];
   clear H c_y z_y c_s c_q z_q c_t;
   have H := n_;
   clear n_;
   have c_x := H.out.cell (g := gx) aJ;
   have z_x := H.out.frozen (g := gx) aJ;
   have c_y := H.out.cell (g := gy) mem1;
   have z_y := H.out.frozen (g := gy) mem1;
   have c_s := H.out.cell (g := gs) bK;
   have c_q := H.out.cell (g := gq) dJ;
   have z_q := H.out.frozen (g := gq) dJ;
   have c_t := H.out.cell (g := gt) sD)
 |((with_reducible refine aN (t := 33) (p := 20) rfl ?_);
   refine aZ (rs1 := [box gx [.int .u64 0, .string ⟨#[]⟩, .bool false] 41, box gy [.slice A2 Q2.L.l.length c2, .bool Q2.L.dn, .int .i64 Q2.L.fu, .int .i64 Q2.L.fa, .int .i64 Q2.L.size, .int .u64 Q2.L.fr, .int .u64 Q2.L.nx, .bool Q2.L.br, .slice B2 Q2.es.length d2, .int .i64 Q2.most] 33, row k67 67 (.slice A2 (Q2.L.l).length c2) Q2.L.l, row k41 41 (.slice B2 (Q2.es).length d2) Q2.es, box gs [.int .u8 x.f0, .string x.f1, .int .u64 x.f2] 84, box gq [.slice A Q.L.l.length c, .bool Q.L.dn, .int .i64 Q.L.fu, .int .i64 Q.L.fa, .int .i64 Q.L.size, .int .u64 Q.L.fr, .int .u64 Q.L.nx, .bool Q.L.br, .slice B Q.es.length d, .int .i64 Q.most] 33, row k41 41 (.slice Ao (wa).length co) wa, box gt [.int .u8 k, .string sd, .int .u64 sq] 84]) rfl (t := 33) (p := 20) rfl rfl ?hr (H1 := (Sep.set1 (Sep.set1 (Sep.set1 (Sep.set1 (Sep.set1 (Sep.set1 (Sep.set1 (Sep.set1 (Sep.set1 (Sep.set1 H.out 0 (.slice A2 Q2.L.l.length c2) rfl) 1 (.bool Q2.L.dn) rfl) 2 (.int .i64 Q2.L.fu) rfl) 3 (.int .i64 Q2.L.fa) rfl) 4 (.int .i64 Q2.L.size) rfl) 5 (.int .u64 Q2.L.fr) rfl) 6 (.int .u64 Q2.L.nx) rfl) 7 (.bool Q2.L.br) rfl) 8 (.slice B2 Q2.es.length d2) rfl) 9 (.int .i64 Q2.most) rfl)) ?_;
   (case hr => first | (go_simp; done) | (go_simp; rfl));
   intro OV n_;
   clear H c_x z_x c_y z_y c_s c_q z_q c_t;
   have H := n_;
   clear n_;
   have c_x := H.out.cell (g := gx) aJ;
   have z_x := H.out.frozen (g := gx) aJ;
   have c_y := H.out.cell (g := gy) mem1;
   have z_y := H.out.frozen (g := gy) mem1;
   have c_s := H.out.cell (g := gs) bK;
   have c_q := H.out.cell (g := gq) dJ;
   have z_q := H.out.frozen (g := gq) dJ;
   have c_t := H.out.cell (g := gt) sD)
 |((with_reducible refine aN (t := 41) (p := 21) rfl ?_);
   refine aZ (rs1 := [box gx [.int .u64 X.f0, .string X.f1, .bool X.f2] 41, box gy [.slice A2 Q2.L.l.length c2, .bool Q2.L.dn, .int .i64 Q2.L.fu, .int .i64 Q2.L.fa, .int .i64 Q2.L.size, .int .u64 Q2.L.fr, .int .u64 Q2.L.nx, .bool Q2.L.br, .slice B2 Q2.es.length d2, .int .i64 Q2.most] 33, row k67 67 (.slice A2 (Q2.L.l).length c2) Q2.L.l, row k41 41 (.slice B2 (Q2.es).length d2) Q2.es, box gs [.int .u8 x.f0, .string x.f1, .int .u64 x.f2] 84, box gq [.slice A Q.L.l.length c, .bool Q.L.dn, .int .i64 Q.L.fu, .int .i64 Q.L.fa, .int .i64 Q.L.size, .int .u64 Q.L.fr, .int .u64 Q.L.nx, .bool Q.L.br, .slice B Q.es.length d, .int .i64 Q.most] 33, row k41 41 (.slice Ao (wa).length co) wa, box gt [.int .u8 k, .string sd, .int .u64 sq] 84]) rfl (t := 41) (p := 21) rfl rfl ?hr (H1 := (Sep.set0 (Sep.set0 (Sep.set0 H.out 0 (.int .u64 X.f0) rfl) 1 (.string X.f1) rfl) 2 (.bool X.f2) rfl)) ?_;
   (case hr => first | (go_simp; done) | (go_simp; rfl));
   intro qbA n_;
   clear H c_x z_x c_y z_y c_s c_q z_q c_t;
   have H := n_;
   clear n_;
   have c_x := H.out.cell (g := gx) aJ;
   have z_x := H.out.frozen (g := gx) aJ;
   have c_y := H.out.cell (g := gy) mem1;
   have z_y := H.out.frozen (g := gy) mem1;
   have c_s := H.out.cell (g := gs) bK;
   have c_q := H.out.cell (g := gq) dJ;
   have z_q := H.out.frozen (g := gq) dJ;
   have c_t := H.out.cell (g := gt) sD)
 |((with_reducible refine aN (t := 33) (p := 15) rfl ?_);
   refine aZ (rs1 := [box gx [.int .u64 X.f0, .string X.f1, .bool X.f2] 41, box gy [.slice A2 Q2.L.l.length c2, .bool Q2.L.dn, .int .i64 Q2.L.fu, .int .i64 Q2.L.fa, .int .i64 Q2.L.size, .int .u64 Q2.L.fr, .int .u64 Q2.L.nx, .bool Q2.L.br, .slice B2 Q2.es.length d2, .int .i64 Q2.most] 33, row k67 67 (.slice A2 (Q2.L.l).length c2) Q2.L.l, row k41 41 (.slice B2 (Q2.es).length d2) Q2.es, box gs [.int .u8 x.f0, .string x.f1, .int .u64 x.f2] 84, box gq [.slice A2 Q2.L.l.length c2, .bool Q2.L.dn, .int .i64 Q2.L.fu, .int .i64 Q2.L.fa, .int .i64 Q2.L.size, .int .u64 Q2.L.fr, .int .u64 Q2.L.nx, .bool Q2.L.br, .slice B2 Q2.es.length d2, .int .i64 Q2.most] 33, row k41 41 (.slice Ao (wa).length co) wa, box gt [.int .u8 k, .string sd, .int .u64 sq] 84]) rfl (t := 33) (p := 15) rfl rfl ?hr (H1 := (Sep.fZ (Sep.fZ (Sep.fZ (Sep.fZ (Sep.fZ (Sep.fZ (Sep.fZ (Sep.fZ (Sep.fZ (Sep.fZ H.out 0 (.slice A2 Q2.L.l.length c2) rfl) 1 (.bool Q2.L.dn) rfl) 2 (.int .i64 Q2.L.fu) rfl) 3 (.int .i64 Q2.L.fa) rfl) 4 (.int .i64 Q2.L.size) rfl) 5 (.int .u64 Q2.L.fr) rfl) 6 (.int .u64 Q2.L.nx) rfl) 7 (.bool Q2.L.br) rfl) 8 (.slice B2 Q2.es.length d2) rfl) 9 (.int .i64 Q2.most) rfl)) ?_;
   (case hr => first | (go_simp; done) | (go_simp; rfl));
   intro qbB n_;
   clear H c_x z_x c_y z_y c_s c_q z_q c_t;
   have H := n_;
   clear n_;
   have c_x := H.out.cell (g := gx) aJ;
   have z_x := H.out.frozen (g := gx) aJ;
   have c_y := H.out.cell (g := gy) mem1;
   have z_y := H.out.frozen (g := gy) mem1;
   have c_s := H.out.cell (g := gs) bK;
   have c_q := H.out.cell (g := gq) dJ;
   have z_q := H.out.frozen (g := gq) dJ;
   have c_t := H.out.cell (g := gt) sD)
 |fail)
     obtain ⟨wb, hwb⟩ : ∃ wb, wb = kP wa x.f0 x.f1 x.f2 X.f0 := ⟨_, rfl⟩
     refine ((F5 (b := w) Ao co wa x.f0 x.f1 x.f2 X.f0 X.f1 X.f2 HWL.out ⟨Sep.pU H.out⟩).mono ?_)
     rw [← hwb]
     rintro e qai ⟨An, cn, rfl, HJ⟩
     have n_ : aA (Sep w qai [row k41 41 (.slice An (wb).length cn) wb, row k41 41 (.slice Ao (wa).length co) wa, box gx [.int .u64 X.f0, .string X.f1, .bool X.f2] 41, box gy [.slice A2 Q2.L.l.length c2, .bool Q2.L.dn, .int .i64 Q2.L.fu, .int .i64 Q2.L.fa, .int .i64 Q2.L.size, .int .u64 Q2.L.fr, .int .u64 Q2.L.nx, .bool Q2.L.br, .slice B2 Q2.es.length d2, .int .i64 Q2.most] 33, row k67 67 (.slice A2 (Q2.L.l).length c2) Q2.L.l, row k41 41 (.slice B2 (Q2.es).length d2) Q2.es, box gs [.int .u8 x.f0, .string x.f1, .int .u64 x.f2] 84, box gq [.slice A2 Q2.L.l.length c2, .bool Q2.L.dn, .int .i64 Q2.L.fu, .int .i64 Q2.L.fa, .int .i64 Q2.L.size, .int .u64 Q2.L.fr, .int .u64 Q2.L.nx, .bool Q2.L.br, .slice B2 Q2.es.length d2, .int .i64 Q2.most] 33, box gt [.int .u8 k, .string sd, .int .u64 sq] 84]) := ⟨HJ.out⟩
     clear H c_x z_x c_y z_y c_s c_q z_q c_t
     have H := n_
     clear n_
     have c_x := H.out.cell (g := gx) mem2
     have z_x := H.out.frozen (g := gx) mem2
     have c_y := H.out.cell (g := gy) mem3
     have z_y := H.out.frozen (g := gy) mem3
     have c_s := H.out.cell (g := gs) jC
     have c_q := H.out.cell (g := gq) sD
     have z_q := H.out.frozen (g := gq) sD
     have c_t := H.out.cell (g := gt) QY
     clear HJ
     have Hwb := aA.mk hwb
     clear hwb
     rw [← Hwb.out] at HF2
     go_wp2_with fail
     try rw [hw3]
     exact ⟨⟨i + 1, Q2, wb, A2, c2, B2, d2, An, cn, rfl, rfl, by omega, HF2, ⟨(Sep.gI (Sep.kZ (Sep.kZ (Sep.iP (Sep.gI (Sep.drop1 (Sep.drop2 (Sep.gK (Sep.xA H.out)))))))))⟩⟩, by simp [intOf] <;> omega⟩
    ·
     have he1 : (e != 0) = true := by simpa using he
     go_wp2_with (first
 |((with_reducible refine aP (N := 20) rfl ?_);
   refine bG rfl H (cs := [.slice none 0 0, .bool false, .int .i64 0, .int .i64 0, .int .i64 0, .int .u64 0, .int .u64 0, .bool false, .slice none 0 0, .int .i64 0]) (t := 33) ?hr ?_;
   (case hr => first | (go_simp; done) | (go_simp; rfl));
   intro gy qcN n_;
   simp only [Act.put, zA, zZ, zS];
   clear H c_s z_s c_q c_t;
   have H := n_;
   clear n_;
   have c_y := H.out.cell (g := gy) aJ;
   have z_y := H.out.frozen (g := gy) aJ;
   have c_s := H.out.cell (g := gs) mem3;
   have c_q := H.out.cell (g := gq) bK;
   have c_t := H.out.cell (g := gt) QY)
 |((with_reducible refine aP (N := 21) rfl ?_);
   refine bG rfl H (cs := [.int .u64 0, .string ⟨#[]⟩, .bool false]) (t := 41) ?hr ?_;
   (case hr => first | (go_simp; done) | (go_simp; rfl));
   intro gx qek n_;
   simp only [Act.put, zA, zZ, zS];
   clear H c_y z_y c_s c_q c_t;
   have H := n_;
   clear n_;
   have c_x := H.out.cell (g := gx) aJ;
   have z_x := H.out.frozen (g := gx) aJ;
   have c_y := H.out.cell (g := gy) mem1;
   have z_y := H.out.frozen (g := gy) mem1;
   have c_s := H.out.cell (g := gs) bK;
   have c_q := H.out.cell (g := gq) dJ;
   have c_t := H.out.cell (g := gt) qd2)
 |((with_reducible refine aN (t := 33) (p := 20) rfl ?_);
   refine aZ (rs1 := [box gx [.int .u64 0, .string ⟨#[]⟩, .bool false] 41, box gy [.slice A2 Q2.L.l.length c2, .bool Q2.L.dn, .int .i64 Q2.L.fu, .int .i64 Q2.L.fa, .int .i64 Q2.L.size, .int .u64 Q2.L.fr, .int .u64 Q2.L.nx, .bool Q2.L.br, .slice B2 Q2.es.length d2, .int .i64 Q2.most] 33, row k67 67 (.slice A2 (Q2.L.l).length c2) Q2.L.l, row k41 41 (.slice B2 (Q2.es).length d2) Q2.es, box gs [.int .u8 x.f0, .string x.f1, .int .u64 x.f2] 84, box gq [.slice A Q.L.l.length c, .bool Q.L.dn, .int .i64 Q.L.fu, .int .i64 Q.L.fa, .int .i64 Q.L.size, .int .u64 Q.L.fr, .int .u64 Q.L.nx, .bool Q.L.br, .slice B Q.es.length d, .int .i64 Q.most] 33, row k67 67 (.slice A (Q.L.l).length c) Q.L.l, row k41 41 (.slice B (Q.es).length d) Q.es, row k41 41 (.slice Ao (wa).length co) wa, box gt [.int .u8 k, .string sd, .int .u64 sq] 84]) rfl (t := 33) (p := 20) rfl rfl ?hr (H1 := (Sep.set1 (Sep.set1 (Sep.set1 (Sep.set1 (Sep.set1 (Sep.set1 (Sep.set1 (Sep.set1 (Sep.set1 (Sep.set1 H.out 0 (.slice A2 Q2.L.l.length c2) rfl) 1 (.bool Q2.L.dn) rfl) 2 (.int .i64 Q2.L.fu) rfl) 3 (.int .i64 Q2.L.fa) rfl) 4 (.int .i64 Q2.L.size) rfl) 5 (.int .u64 Q2.L.fr) rfl) 6 (.int .u64 Q2.L.nx) rfl) 7 (.bool Q2.L.br) rfl) 8 (.slice B2 Q2.es.length d2) rfl) 9 (.int .i64 Q2.most) rfl)) ?_;
   (case hr => first | (go_simp; done) | (go_simp; rfl));
   intro qbC n_;
   clear H c_x z_x c_y z_y c_s c_q c_t;
   have H := n_;
   clear n_;
   have c_x := H.out.cell (g := gx) aJ;
   have z_x := H.out.frozen (g := gx) aJ;
   have c_y := H.out.cell (g := gy) mem1;
   have z_y := H.out.frozen (g := gy) mem1;
   have c_s := H.out.cell (g := gs) bK;
   have c_q := H.out.cell (g := gq) dJ;
   have c_t := H.out.cell (g := gt) qd2)
 |((with_reducible refine aN (t := 41) (p := 21) rfl ?_);
   refine aZ (rs1 := [box gx [.int .u64 X.f0, .string X.f1, .bool X.f2] 41, box gy [.slice A2 Q2.L.l.length c2, .bool Q2.L.dn, .int .i64 Q2.L.fu, .int .i64 Q2.L.fa, .int .i64 Q2.L.size, .int .u64 Q2.L.fr, .int .u64 Q2.L.nx, .bool Q2.L.br, .slice B2 Q2.es.length d2, .int .i64 Q2.most] 33, row k67 67 (.slice A2 (Q2.L.l).length c2) Q2.L.l, row k41 41 (.slice B2 (Q2.es).length d2) Q2.es, box gs [.int .u8 x.f0, .string x.f1, .int .u64 x.f2] 84, box gq [.slice A Q.L.l.length c, .bool Q.L.dn, .int .i64 Q.L.fu, .int .i64 Q.L.fa, .int .i64 Q.L.size, .int .u64 Q.L.fr, .int .u64 Q.L.nx, .bool Q.L.br, .slice B Q.es.length d, .int .i64 Q.most] 33, row k67 67 (.slice A (Q.L.l).length c) Q.L.l, row k41 41 (.slice B (Q.es).length d) Q.es, row k41 41 (.slice Ao (wa).length co) wa, box gt [.int .u8 k, .string sd, .int .u64 sq] 84]) rfl (t := 41) (p := 21) rfl rfl ?hr (H1 := (Sep.set0 (Sep.set0 (Sep.set0 H.out 0 (.int .u64 X.f0) rfl) 1 (.string X.f1) rfl) 2 (.bool X.f2) rfl)) ?_;
   (case hr => first | (go_simp; done) | (go_simp; rfl));
   intro qel n_;
   clear H c_x z_x c_y z_y c_s c_q c_t;
   have H := n_;
   clear n_;
   have c_x := H.out.cell (g := gx) aJ;
   have z_x := H.out.frozen (g := gx) aJ;
   have c_y := H.out.cell (g := gy) mem1;
   have z_y := H.out.frozen (g := gy) mem1;
   have c_s := H.out.cell (g := gs) bK;
   have c_q := H.out.cell (g := gq) dJ;
   have c_t := H.out.cell (g := gt) qd2)
 |fail)
     try rw [hw3]
     exact ⟨⟨i + 1, Q, wa, A, c, B, d, Ao, co, rfl, rfl, by omega, HF, ⟨(Sep.dV (Sep.drop1 (Sep.drop2 (Sep.gK (Sep.jO H.out)))))⟩⟩, by simp [intOf] <;> omega⟩
   ·
    have hie : i = steps.length := by omega
    subst hie
    have hnl : ¬ (steps.length : Int) < (steps.length : Int) := by omega
    obtain ⟨R, X, e, hD, hrt, hz, hnz⟩ := HF.out.last fuse fault ks k sd sq
    obtain ⟨P, hP⟩ : ∃ P : Qu, P = ⟨⟨Q.L.l, Q.L.dn, fuse, fault, Q.L.size, Q.L.fr, Q.L.nx, Q.L.br⟩, Q.es, Q.most⟩ := ⟨_, rfl⟩
    have HDO := aA.mk (fun A c B d w hr hc hre hce hG h0 h1 h2 => qbR A c B d ⟨⟨Q.L.l, Q.L.dn, fuse, fault, Q.L.size, Q.L.fr, Q.L.nx, Q.L.br⟩, Q.es, Q.most⟩ k sd sq w hr hc hre hce hG h0 h1 h2 HQ.out.1 HQ.out.2)
    rw [hD] at HDO
    simp only [qc, lgc, List.cons_append, List.nil_append] at HDO
    have HRT := aA.mk hrt
    have HZ := aA.mk hz
    have HNZ := aA.mk hnz
    clear hD hrt hz hnz hP
    go_wp2_with (first
 |((with_reducible refine aN (t := 3) (p := 68) rfl ?_);
   refine aZ (rs1 := [box gq [.slice A Q.L.l.length c, .bool Q.L.dn, .int .i64 fuse, .int .i64 Q.L.fa, .int .i64 Q.L.size, .int .u64 Q.L.fr, .int .u64 Q.L.nx, .bool Q.L.br, .slice B Q.es.length d, .int .i64 Q.most] 33, row k67 67 (.slice A (Q.L.l).length c) Q.L.l, row k41 41 (.slice B (Q.es).length d) Q.es, row k41 41 (.slice Ao (wa).length co) wa, box gt [.int .u8 k, .string sd, .int .u64 sq] 84]) rfl (t := 3) (p := 68) rfl rfl ?hr (H1 := (Sep.set0 H.out 2 (.int .i64 fuse) rfl)) ?_;
   (case hr => first | (go_simp; done) | (go_simp; rfl));
   intro qfa n_;
   clear H c_q z_q c_t;
   have H := n_;
   clear n_;
   have c_q := H.out.cell (g := gq) aJ;
   have z_q := H.out.frozen (g := gq) aJ;
   have c_t := H.out.cell (g := gt) bK)
 |((with_reducible refine aN (t := 3) (p := 71) rfl ?_);
   refine aZ (rs1 := [box gq [.slice A Q.L.l.length c, .bool Q.L.dn, .int .i64 fuse, .int .i64 fault, .int .i64 Q.L.size, .int .u64 Q.L.fr, .int .u64 Q.L.nx, .bool Q.L.br, .slice B Q.es.length d, .int .i64 Q.most] 33, row k67 67 (.slice A (Q.L.l).length c) Q.L.l, row k41 41 (.slice B (Q.es).length d) Q.es, row k41 41 (.slice Ao (wa).length co) wa, box gt [.int .u8 k, .string sd, .int .u64 sq] 84]) rfl (t := 3) (p := 71) rfl rfl ?hr (H1 := (Sep.set0 H.out 3 (.int .i64 fault) rfl)) ?_;
   (case hr => first | (go_simp; done) | (go_simp; rfl));
   intro qem n_;
   clear H c_q z_q c_t;
   have H := n_;
   clear n_;
   have c_q := H.out.cell (g := gq) aJ;
   have z_q := H.out.frozen (g := gq) aJ;
   have c_t := H.out.cell (g := gt) bK)
 |fail)
    have n_ : aA (Sep w qem [box gq [.slice A Q.L.l.length c, .bool Q.L.dn, .int .i64 fuse, .int .i64 fault, .int .i64 Q.L.size, .int .u64 Q.L.fr, .int .u64 Q.L.nx, .bool Q.L.br, .slice B Q.es.length d, .int .i64 Q.most] 33, row k67 67 (.slice A (Q.L.l).length c) Q.L.l, row k41 41 (.slice B (Q.es).length d) Q.es, row k41 41 (.slice Ao (wa).length co) wa, box gt [.int .u8 k, .string sd, .int .u64 sq] 84]) := ⟨H.out⟩
    clear H c_q z_q c_t
    have H := n_
    clear n_
    have c_q := H.out.cell (g := gq) aJ
    have z_q := H.out.frozen (g := gq) aJ
    have c_t := H.out.cell (g := gt) bK
    refine ((HDO.out _ _ _ _ _ (H.out.reads mem1).2.2 (H.out.reads mem1).2.1 (H.out.reads mem2).2.2 (H.out.reads mem2).2.1 (HG.out.below H.out.below) HOK.out.1 HOK.out.2.1 HOK.out.2.2).mono ?_)
    rintro e qcO ⟨A2, c2, B2, d2, rfl, HJ⟩
    have n_ : aA (Sep w qcO [row k67 67 (.slice A2 (R.L.l).length c2) R.L.l, row k41 41 (.slice B2 (R.es).length d2) R.es, box gq [.slice A Q.L.l.length c, .bool Q.L.dn, .int .i64 fuse, .int .i64 fault, .int .i64 Q.L.size, .int .u64 Q.L.fr, .int .u64 Q.L.nx, .bool Q.L.br, .slice B Q.es.length d, .int .i64 Q.most] 33, row k67 67 (.slice A (Q.L.l).length c) Q.L.l, row k41 41 (.slice B (Q.es).length d) Q.es, row k41 41 (.slice Ao (wa).length co) wa, box gt [.int .u8 k, .string sd, .int .u64 sq] 84]) := ⟨eY H.out HJ.out⟩
    clear H c_q z_q c_t
    have H := n_
    clear n_
    have c_q := H.out.cell (g := gq) mem2
    have z_q := H.out.frozen (g := gq) mem2
    have c_t := H.out.cell (g := gt) jC
    clear HJ
    clear HDO
    try simp only [qc, lgc, List.cons_append, List.nil_append]
    have n_ : aA (Sep w qcO [row k67 67 (.slice A2 (R.L.l).length c2) R.L.l, box gq [.slice A Q.L.l.length c, .bool Q.L.dn, .int .i64 fuse, .int .i64 fault, .int .i64 Q.L.size, .int .u64 Q.L.fr, .int .u64 Q.L.nx, .bool Q.L.br, .slice B Q.es.length d, .int .i64 Q.most] 33, row k41 41 (.slice Ao (wa).length co) wa, box gt [.int .u8 k, .string sd, .int .u64 sq] 84]) := ⟨(Sep.drop1 (Sep.gK (Sep.jO H.out)))⟩
    clear H c_q z_q c_t
    have H := n_
    clear n_
    have c_q := H.out.cell (g := gq) mem1
    have z_q := H.out.frozen (g := gq) mem1
    have c_t := H.out.cell (g := gt) mem3
    go_wp2_with (first
 |((with_reducible refine aP (N := 23) rfl ?_);
   refine bG rfl H (cs := [.slice none 0 0, .bool false, .int .i64 0, .int .i64 0, .int .i64 0, .int .u64 0, .int .u64 0, .bool false, .slice none 0 0, .int .i64 0]) (t := 33) ?hr ?_;
   (case hr => first | (go_simp; done) | (go_simp; rfl));
   intro gp qen n_;
   simp only [Act.put, zA, zZ, zS];
   clear H c_q z_q c_t;
   have H := n_;
   clear n_;
   have c_p := H.out.cell (g := gp) aJ;
   have z_p := H.out.frozen (g := gp) aJ;
   have c_q := H.out.cell (g := gq) mem2;
   have c_t := H.out.cell (g := gt) bK)
 |((with_reducible refine aP (N := 24) rfl ?_);
   refine bG rfl H (cs := [.int .u64 0, .string ⟨#[]⟩, .bool false]) (t := 41) ?hr ?_;
   (case hr => first | (go_simp; done) | (go_simp; rfl));
   intro gx qfb n_;
   simp only [Act.put, zA, zZ, zS];
   clear H c_p z_p c_q c_t;
   have H := n_;
   clear n_;
   have c_x := H.out.cell (g := gx) aJ;
   have z_x := H.out.frozen (g := gx) aJ;
   have c_p := H.out.cell (g := gp) mem1;
   have z_p := H.out.frozen (g := gp) mem1;
   have c_q := H.out.cell (g := gq) mem3;
   have c_t := H.out.cell (g := gt) dJ)
 |((with_reducible refine aN (t := 33) (p := 23) rfl ?_);
   refine aZ (rs1 := [box gx [.int .u64 0, .string ⟨#[]⟩, .bool false] 41, box gp [.slice A2 R.L.l.length c2, .bool R.L.dn, .int .i64 R.L.fu, .int .i64 R.L.fa, .int .i64 R.L.size, .int .u64 R.L.fr, .int .u64 R.L.nx, .bool R.L.br, .slice B2 R.es.length d2, .int .i64 R.most] 33, row k67 67 (.slice A2 (R.L.l).length c2) R.L.l, box gq [.slice A Q.L.l.length c, .bool Q.L.dn, .int .i64 fuse, .int .i64 fault, .int .i64 Q.L.size, .int .u64 Q.L.fr, .int .u64 Q.L.nx, .bool Q.L.br, .slice B Q.es.length d, .int .i64 Q.most] 33, row k41 41 (.slice Ao (wa).length co) wa, box gt [.int .u8 k, .string sd, .int .u64 sq] 84]) rfl (t := 33) (p := 23) rfl rfl ?hr (H1 := (Sep.set1 (Sep.set1 (Sep.set1 (Sep.set1 (Sep.set1 (Sep.set1 (Sep.set1 (Sep.set1 (Sep.set1 (Sep.set1 H.out 0 (.slice A2 R.L.l.length c2) rfl) 1 (.bool R.L.dn) rfl) 2 (.int .i64 R.L.fu) rfl) 3 (.int .i64 R.L.fa) rfl) 4 (.int .i64 R.L.size) rfl) 5 (.int .u64 R.L.fr) rfl) 6 (.int .u64 R.L.nx) rfl) 7 (.bool R.L.br) rfl) 8 (.slice B2 R.es.length d2) rfl) 9 (.int .i64 R.most) rfl)) ?_;
   (case hr => first | (go_simp; done) | (go_simp; rfl));
   intro qfc n_;
   clear H c_x z_x c_p z_p c_q c_t;
   have H := n_;
   clear n_;
   have c_x := H.out.cell (g := gx) aJ;
   have z_x := H.out.frozen (g := gx) aJ;
   have c_p := H.out.cell (g := gp) mem1;
   have z_p := H.out.frozen (g := gp) mem1;
   have c_q := H.out.cell (g := gq) mem3;
   have c_t := H.out.cell (g := gt) dJ)
 |((with_reducible refine aN (t := 41) (p := 24) rfl ?_);
   refine aZ (rs1 := [box gx [.int .u64 X.f0, .string X.f1, .bool X.f2] 41, box gp [.slice A2 R.L.l.length c2, .bool R.L.dn, .int .i64 R.L.fu, .int .i64 R.L.fa, .int .i64 R.L.size, .int .u64 R.L.fr, .int .u64 R.L.nx, .bool R.L.br, .slice B2 R.es.length d2, .int .i64 R.most] 33, row k67 67 (.slice A2 (R.L.l).length c2) R.L.l, box gq [.slice A Q.L.l.length c, .bool Q.L.dn, .int .i64 fuse, .int .i64 fault, .int .i64 Q.L.size, .int .u64 Q.L.fr, .int .u64 Q.L.nx, .bool Q.L.br, .slice B Q.es.length d, .int .i64 Q.most] 33, row k41 41 (.slice Ao (wa).length co) wa, box gt [.int .u8 k, .string sd, .int .u64 sq] 84]) rfl (t := 41) (p := 24) rfl rfl ?hr (H1 := (Sep.set0 (Sep.set0 (Sep.set0 H.out 0 (.int .u64 X.f0) rfl) 1 (.string X.f1) rfl) 2 (.bool X.f2) rfl)) ?_;
   (case hr => first | (go_simp; done) | (go_simp; rfl));
   intro qfd n_;
   clear H c_x z_x c_p z_p c_q c_t;
   have H := n_;
   clear n_;
   have c_x := H.out.cell (g := gx) aJ;
   have z_x := H.out.frozen (g := gx) aJ;
   have c_p := H.out.cell (g := gp) mem1;
   have z_p := H.out.frozen (g := gp) mem1;
   have c_q := H.out.cell (g := gq) mem3;
   have c_t := H.out.cell (g := gt) dJ)
 |fail)
    obtain ⟨Bk, hBk⟩ : ∃ Bk, Bk = kP wa k sd sq Q.L.nx := ⟨_, rfl⟩
    refine ((F5 (b := w) Ao co wa k sd sq Q.L.nx ⟨#[]⟩ false HWL.out ⟨Sep.gI H.out⟩).mono ?_)
    rw [← hBk]
    rintro e qbD ⟨Ab, cb, rfl, HJ⟩
    have n_ : aA (Sep w qbD [row k41 41 (.slice Ab (Bk).length cb) Bk, row k41 41 (.slice Ao (wa).length co) wa, box gx [.int .u64 X.f0, .string X.f1, .bool X.f2] 41, box gp [.slice A2 R.L.l.length c2, .bool R.L.dn, .int .i64 R.L.fu, .int .i64 R.L.fa, .int .i64 R.L.size, .int .u64 R.L.fr, .int .u64 R.L.nx, .bool R.L.br, .slice B2 R.es.length d2, .int .i64 R.most] 33, row k67 67 (.slice A2 (R.L.l).length c2) R.L.l, box gq [.slice A Q.L.l.length c, .bool Q.L.dn, .int .i64 fuse, .int .i64 fault, .int .i64 Q.L.size, .int .u64 Q.L.fr, .int .u64 Q.L.nx, .bool Q.L.br, .slice B Q.es.length d, .int .i64 Q.most] 33, box gt [.int .u8 k, .string sd, .int .u64 sq] 84]) := ⟨HJ.out⟩
    clear H c_x z_x c_p z_p c_q c_t
    have H := n_
    clear n_
    have c_x := H.out.cell (g := gx) mem2
    have z_x := H.out.frozen (g := gx) mem2
    have c_p := H.out.cell (g := gp) mem3
    have z_p := H.out.frozen (g := gp) mem3
    have c_q := H.out.cell (g := gq) dJ
    have c_t := H.out.cell (g := gt) jC
    clear HJ
    have HBk := aA.mk hBk
    clear hBk
    have hgood : (¬ e = 0 ∧ QB (dG R.L.l ks) Bk ∧ (e = 17 ∨ e = 18)) ∨ ((e = 0 → QB (dG R.L.l ks) (kP wa k sd sq X.f0)) ∧ (¬ e = 0 → QB (dG R.L.l ks) wa)) := by
     by_cases he : e = 0
     ·exact .inr ⟨fun _ => HZ.out he, fun h => absurd he h⟩
     ·rcases HNZ.out he with h | ⟨h, h17⟩
      ·exact .inr ⟨fun h0 => absurd h0 he, fun _ => h⟩
      ·exact .inl ⟨he, by rw [HBk.out]; exact h, h17⟩
    clear HZ HNZ
    rcases hgood with ⟨he, hqb, h17⟩ | ⟨hz, hnz⟩
    ·
     have he1 : (e == 0) = false := by simpa using he
     have HQB := aA.mk hqb
     have hb8 : (e == 8) = false := by rcases h17 with rfl | rfl <;> rfl
     have hb4 : (e == 4) = false := by rcases h17 with rfl | rfl <;> rfl
     have qfK : (e == 19) = false := by rcases h17 with rfl | rfl <;> rfl
     have hb7 : (e == 7) = false := by rcases h17 with rfl | rfl <;> rfl
     have hb5 : (e == 5) = false := by rcases h17 with rfl | rfl <;> rfl
     clear hqb h17 he
     go_upto_region 23 with fail
     have n_ : aA (Sep w qbD [row k41 41 (.slice Ao (wa).length co) wa, row k41 41 (.slice Ab (Bk).length cb) Bk, row k67 67 (.slice A2 (R.L.l).length c2) R.L.l, box gp [.slice A2 R.L.l.length c2, .bool R.L.dn, .int .i64 R.L.fu, .int .i64 R.L.fa, .int .i64 R.L.size, .int .u64 R.L.fr, .int .u64 R.L.nx, .bool R.L.br, .slice B2 R.es.length d2, .int .i64 R.most] 33]) := ⟨(Sep.kZ (Sep.iQ (Sep.kZ (Sep.iQ (Sep.drop2 (Sep.rV (Sep.xA H.out)))))))⟩
     clear H c_x z_x c_p z_p c_q c_t
     have H := n_
     clear n_
     have c_p := H.out.cell (g := gp) mem3
     have z_p := H.out.frozen (g := gp) mem3
     have HEL : aA (Bk.length ≤ 1024) := ⟨HQB.out.2⟩
     obtain ⟨L5, hop⟩ := HQB.out.opens HM0.out.2.1 HM0.out.2.2 HM0.out.1.1 HM0.out.1.2
     have HOP := aA.mk (fun A c w hr hc hG => vU A c (dG R.L.l ks) false (-1) (-1) size most w hr hc hG)
     rw [hop] at HOP
     obtain ⟨hok, qcn, _⟩ := TS hop
     have HCK : aA (bJ.f (Bk.length + 3) L5.l L5.dn L5.fu L5.fa L5.size L5.fr L5.nx L5.br Bk most = some 0) := ⟨by
      have h := I7 ⟨L5, Bk, most⟩ qcn.1 (by have := HEL.out; show Bk.length ≤ _; omega)
      rw [if_pos hok] at h
      exact h⟩
     simp only [qc, lgc, List.cons_append, List.nil_append] at HOP
     clear hop hok qcn
     go_wp2_with fail
     refine ((oW.calls A2 c2 R.L.l R.L.dn R.L.fu R.L.fa Ak ck ks (dG R.L.l ks) false (-1) (-1) 0 _ (H.out.reads mem2).2.2 (H.out.reads mem2).2.1 (H.out.came HRk.out) HCk.out (by rw [oW.f, if_pos HRT.out])).mono ?_)
     rintro e qcP ⟨v_, rfl, ho_, hb_⟩
     obtain ⟨Acr, ccr, eo_⟩ := Kd.dQ ho_
     subst eo_
     have n_ : aA (Sep w qcP [row k67 67 (.slice Acr ((dG R.L.l ks)).length ccr) ((dG R.L.l ks)), row k41 41 (.slice Ao (wa).length co) wa, row k41 41 (.slice Ab (Bk).length cb) Bk, row k67 67 (.slice A2 (R.L.l).length c2) R.L.l, box gp [.slice A2 R.L.l.length c2, .bool R.L.dn, .int .i64 R.L.fu, .int .i64 R.L.fa, .int .i64 R.L.size, .int .u64 R.L.fr, .int .u64 R.L.nx, .bool R.L.br, .slice B2 R.es.length d2, .int .i64 R.most] 33]) := ⟨Sep.iY H.out hb_ ho_ lJ⟩
     clear H c_p z_p
     have H := n_
     clear n_
     have c_p := H.out.cell (g := gp) bK
     have z_p := H.out.frozen (g := gp) bK
     clear ho_ hb_
     have n_ : aA (Sep w qcP [row k67 67 (.slice Acr ((dG R.L.l ks)).length ccr) ((dG R.L.l ks)), row k41 41 (.slice Ao (wa).length co) wa, row k41 41 (.slice Ab (Bk).length cb) Bk]) := ⟨(Sep.gK (Sep.jO H.out))⟩
     clear H c_p z_p
     have H := n_
     clear n_
     go_wp2_with (first
 |((with_reducible refine aP (N := 26) rfl ?_);
   refine bG rfl H (cs := [.slice none 0 0, .bool false, .int .i64 0, .int .i64 0]) (t := 27) ?hr ?_;
   (case hr => first | (go_simp; done) | (go_simp; rfl));
   intro gd qfe n_;
   simp only [Act.put, zA, zZ, zS];
   clear H;
   have H := n_;
   clear n_;
   have c_d := H.out.cell (g := gd) aJ;
   have z_d := H.out.frozen (g := gd) aJ)
 |((with_reducible refine aN (t := 27) (p := 26) rfl ?_);
   refine aZ (rs1 := [box gd [.slice Acr (dG R.L.l ks).length ccr, .bool false, .int .i64 (-1), .int .i64 (-1)] 27, row k67 67 (.slice Acr ((dG R.L.l ks)).length ccr) ((dG R.L.l ks)), row k41 41 (.slice Ao (wa).length co) wa, row k41 41 (.slice Ab (Bk).length cb) Bk]) rfl (t := 27) (p := 26) rfl rfl ?hr (H1 := (Sep.set0 (Sep.set0 (Sep.set0 (Sep.set0 H.out 0 (.slice Acr (dG R.L.l ks).length ccr) rfl) 1 (.bool false) rfl) 2 (.int .i64 (-1)) rfl) 3 (.int .i64 (-1)) rfl)) ?_;
   (case hr => first | (go_simp; done) | (go_simp; rfl));
   intro qfq n_;
   clear H c_d z_d;
   have H := n_;
   clear n_;
   have c_d := H.out.cell (g := gd) aJ;
   have z_d := H.out.frozen (g := gd) aJ)
 |fail)
     refine ((HOP.out _ _ _ (H.out.reads mem1).2.2 (H.out.reads mem1).2.1 (HG.out.below H.out.below)).mono ?_)
     rintro e qey ⟨A5, c5, B5, d5, rfl, HJ⟩
     have n_ : aA (Sep w qey [row k67 67 (.slice A5 (L5.l).length c5) L5.l, row k41 41 (.slice B5 (Bk).length d5) Bk, box gd [.slice Acr (dG R.L.l ks).length ccr, .bool false, .int .i64 (-1), .int .i64 (-1)] 27, row k67 67 (.slice Acr ((dG R.L.l ks)).length ccr) ((dG R.L.l ks)), row k41 41 (.slice Ao (wa).length co) wa, row k41 41 (.slice Ab (Bk).length cb) Bk]) := ⟨eY H.out HJ.out⟩
     clear H c_d z_d
     have H := n_
     clear n_
     have c_d := H.out.cell (g := gd) mem2
     have z_d := H.out.frozen (g := gd) mem2
     clear HJ
     clear HOP
     try simp only [qc, lgc, List.cons_append, List.nil_append]
     have n_ : aA (Sep w qey [row k67 67 (.slice A5 (L5.l).length c5) L5.l, row k41 41 (.slice B5 (Bk).length d5) Bk, row k41 41 (.slice Ao (wa).length co) wa, row k41 41 (.slice Ab (Bk).length cb) Bk]) := ⟨(Sep.drop2 (Sep.gK H.out))⟩
     clear H c_d z_d
     have H := n_
     clear n_
     go_wp2_with (first
 |((with_reducible refine aP (N := 28) rfl ?_);
   refine bG rfl H (cs := [.slice none 0 0, .bool false, .int .i64 0, .int .i64 0, .int .i64 0, .int .u64 0, .int .u64 0, .bool false, .slice none 0 0, .int .i64 0]) (t := 33) ?hr ?_;
   (case hr => first | (go_simp; done) | (go_simp; rfl));
   intro gr qil n_;
   simp only [Act.put, zA, zZ, zS];
   clear H;
   have H := n_;
   clear n_;
   have c_r := H.out.cell (g := gr) aJ;
   have z_r := H.out.frozen (g := gr) aJ)
 |((with_reducible refine aN (t := 33) (p := 28) rfl ?_);
   refine aZ (rs1 := [box gr [.slice A5 L5.l.length c5, .bool L5.dn, .int .i64 L5.fu, .int .i64 L5.fa, .int .i64 L5.size, .int .u64 L5.fr, .int .u64 L5.nx, .bool L5.br, .slice B5 Bk.length d5, .int .i64 most] 33, row k67 67 (.slice A5 (L5.l).length c5) L5.l, row k41 41 (.slice B5 (Bk).length d5) Bk, row k41 41 (.slice Ao (wa).length co) wa, row k41 41 (.slice Ab (Bk).length cb) Bk]) rfl (t := 33) (p := 28) rfl rfl ?hr (H1 := (Sep.set0 (Sep.set0 (Sep.set0 (Sep.set0 (Sep.set0 (Sep.set0 (Sep.set0 (Sep.set0 (Sep.set0 (Sep.set0 H.out 0 (.slice A5 L5.l.length c5) rfl) 1 (.bool L5.dn) rfl) 2 (.int .i64 L5.fu) rfl) 3 (.int .i64 L5.fa) rfl) 4 (.int .i64 L5.size) rfl) 5 (.int .u64 L5.fr) rfl) 6 (.int .u64 L5.nx) rfl) 7 (.bool L5.br) rfl) 8 (.slice B5 Bk.length d5) rfl) 9 (.int .i64 most) rfl)) ?_;
   (case hr => first | (go_simp; done) | (go_simp; rfl));
   intro qim n_;
   clear H c_r z_r;
   have H := n_;
   clear n_;
   have c_r := H.out.cell (g := gr) aJ;
   have z_r := H.out.frozen (g := gr) aJ)
 |fail)
     refine ((bJ.calls (Bk.length + 3) A5 c5 L5.l L5.dn L5.fu L5.fa L5.size L5.fr L5.nx L5.br B5 d5 Bk most 0 _ (H.out.reads mem1).2.2 (H.out.reads mem1).2.1 (H.out.reads mem2).2.2 (H.out.reads mem2).2.1 HCK.out).mono ?_)
     rintro e qez ⟨rfl, hb_⟩
     have n_ : aA (Sep w qez [box gr [.slice A5 L5.l.length c5, .bool L5.dn, .int .i64 L5.fu, .int .i64 L5.fa, .int .i64 L5.size, .int .u64 L5.fr, .int .u64 L5.nx, .bool L5.br, .slice B5 Bk.length d5, .int .i64 most] 33, row k67 67 (.slice A5 (L5.l).length c5) L5.l, row k41 41 (.slice B5 (Bk).length d5) Bk, row k41 41 (.slice Ao (wa).length co) wa, row k41 41 (.slice Ab (Bk).length cb) Bk]) := ⟨H.out.step hb_⟩
     clear H c_r z_r
     have H := n_
     clear n_
     have c_r := H.out.cell (g := gr) aJ
     have z_r := H.out.frozen (g := gr) aJ
     clear hb_
     go_wp2_with fail
     obtain ⟨rr, hrr⟩ := qaF Bk wa (by have := HEL.out; omega)
     have HRR := aA.mk hrr
     clear hrr
     refine ((bQ.calls (Bk.length + 1) B5 d5 Bk Ao co wa rr _ (H.out.reads mem2).2.2 (H.out.reads mem2).2.1 (H.out.reads mem3).2.2 (H.out.reads mem3).2.1 HRR.out).mono ?_)
     rintro e qfr ⟨rfl, hb_⟩
     have n_ : aA (Sep w qfr [box gr [.slice A5 L5.l.length c5, .bool L5.dn, .int .i64 L5.fu, .int .i64 L5.fa, .int .i64 L5.size, .int .u64 L5.fr, .int .u64 L5.nx, .bool L5.br, .slice B5 Bk.length d5, .int .i64 most] 33, row k67 67 (.slice A5 (L5.l).length c5) L5.l, row k41 41 (.slice B5 (Bk).length d5) Bk, row k41 41 (.slice Ao (wa).length co) wa, row k41 41 (.slice Ab (Bk).length cb) Bk]) := ⟨H.out.step (eU.below hb_)⟩
     clear H c_r z_r
     have H := n_
     clear n_
     have c_r := H.out.cell (g := gr) aJ
     have z_r := H.out.frozen (g := gr) aJ
     clear hb_
     cases rr
     ·
      go_wp2_with fail
      refine ((bQ.calls (Bk.length + 1) B5 d5 Bk Ab cb Bk true _ (H.out.reads mem2).2.2 (H.out.reads mem2).2.1 (H.out.reads bK).2.2 (H.out.reads bK).2.1 (N8 Bk (by have := HEL.out; omega))).mono ?_)
      rintro e qfs ⟨rfl, hb_⟩
      have n_ : aA (Sep w qfs [box gr [.slice A5 L5.l.length c5, .bool L5.dn, .int .i64 L5.fu, .int .i64 L5.fa, .int .i64 L5.size, .int .u64 L5.fr, .int .u64 L5.nx, .bool L5.br, .slice B5 Bk.length d5, .int .i64 most] 33, row k67 67 (.slice A5 (L5.l).length c5) L5.l, row k41 41 (.slice B5 (Bk).length d5) Bk, row k41 41 (.slice Ao (wa).length co) wa, row k41 41 (.slice Ab (Bk).length cb) Bk]) := ⟨H.out.step (eU.below hb_)⟩
      clear H c_r z_r
      have H := n_
      clear n_
      have c_r := H.out.cell (g := gr) aJ
      have z_r := H.out.frozen (g := gr) aJ
      clear hb_
      go_wp2_with fail
      go_ret
      exact ⟨by first | rfl | simp, H.out.below⟩
     ·
      go_wp2_with fail
      go_ret
      exact ⟨by first | rfl | simp, H.out.below⟩
    ·
     have n_ : aA (Sep w qbD [row k41 41 (.slice Ao (wa).length co) wa, row k67 67 (.slice A2 (R.L.l).length c2) R.L.l, box gp [.slice A2 R.L.l.length c2, .bool R.L.dn, .int .i64 R.L.fu, .int .i64 R.L.fa, .int .i64 R.L.size, .int .u64 R.L.fr, .int .u64 R.L.nx, .bool R.L.br, .slice B2 R.es.length d2, .int .i64 R.most] 33, box gx [.int .u64 X.f0, .string X.f1, .bool X.f2] 41, box gq [.slice A Q.L.l.length c, .bool Q.L.dn, .int .i64 fuse, .int .i64 fault, .int .i64 Q.L.size, .int .u64 Q.L.fr, .int .u64 Q.L.nx, .bool Q.L.br, .slice B Q.es.length d, .int .i64 Q.most] 33, box gt [.int .u8 k, .string sd, .int .u64 sq] 84]) := ⟨(Sep.oV (Sep.oV (Sep.gI (Sep.kZ (Sep.oV (Sep.oV (Sep.dV H.out)))))))⟩
     clear H c_x z_x c_p z_p c_q c_t
     have H := n_
     clear n_
     have c_p := H.out.cell (g := gp) mem2
     have z_p := H.out.frozen (g := gp) mem2
     have c_x := H.out.cell (g := gx) mem3
     have z_x := H.out.frozen (g := gx) mem3
     have c_q := H.out.cell (g := gq) bK
     have c_t := H.out.cell (g := gt) dJ
     have HZ := aA.mk hz
     have HNZ := aA.mk hnz
     clear hz hnz
     go_upto_if 87 with fail
     go_cut [17, 25] (fun v17 v25 wx => ∃ (Ew : List S41) (Aw : Option Addr) (cw : Nat), v17 = .slice Aw Ew.length cw ∧ aA (QB (dG R.L.l ks) Ew) ∧ aA (Sep w wx [row k41 41 (.slice Aw (Ew).length cw) Ew, row k67 67 (.slice A2 (R.L.l).length c2) R.L.l, box gp [.slice A2 R.L.l.length c2, .bool R.L.dn, .int .i64 R.L.fu, .int .i64 R.L.fa, .int .i64 R.L.size, .int .u64 R.L.fr, .int .u64 R.L.nx, .bool R.L.br, .slice B2 R.es.length d2, .int .i64 R.most] 33, box gq [.slice A Q.L.l.length c, .bool Q.L.dn, .int .i64 fuse, .int .i64 fault, .int .i64 Q.L.size, .int .u64 Q.L.fr, .int .u64 Q.L.nx, .bool Q.L.br, .slice B Q.es.length d, .int .i64 Q.most] 33]))
     case first =>
      by_cases he : e = 0
      ·
       have he1 : (e == 0) = true := by simp [he]
       have HE0 := aA.mk he
       clear he
       go_wp2_with fail
       obtain ⟨W, hW⟩ : ∃ W, W = kP wa k sd sq X.f0 := ⟨_, rfl⟩
       refine ((F5 (b := w) Ao co wa k sd sq X.f0 X.f1 X.f2 HWL.out ⟨H.out⟩).mono ?_)
       rw [← hW]
       rintro e qeA ⟨An, cn, rfl, HJ⟩
       have n_ : aA (Sep w qeA [row k41 41 (.slice An (W).length cn) W, row k41 41 (.slice Ao (wa).length co) wa, row k67 67 (.slice A2 (R.L.l).length c2) R.L.l, box gp [.slice A2 R.L.l.length c2, .bool R.L.dn, .int .i64 R.L.fu, .int .i64 R.L.fa, .int .i64 R.L.size, .int .u64 R.L.fr, .int .u64 R.L.nx, .bool R.L.br, .slice B2 R.es.length d2, .int .i64 R.most] 33, box gx [.int .u64 X.f0, .string X.f1, .bool X.f2] 41, box gq [.slice A Q.L.l.length c, .bool Q.L.dn, .int .i64 fuse, .int .i64 fault, .int .i64 Q.L.size, .int .u64 Q.L.fr, .int .u64 Q.L.nx, .bool Q.L.br, .slice B Q.es.length d, .int .i64 Q.most] 33, box gt [.int .u8 k, .string sd, .int .u64 sq] 84]) := ⟨HJ.out⟩
       clear H c_p z_p c_x z_x c_q c_t
       have H := n_
       clear n_
       have c_p := H.out.cell (g := gp) mem3
       have z_p := H.out.frozen (g := gp) mem3
       have c_x := H.out.cell (g := gx) bK
       have z_x := H.out.frozen (g := gx) bK
       have c_q := H.out.cell (g := gq) dJ
       have c_t := H.out.cell (g := gt) jC
       clear HJ
       have HW := aA.mk hW
       clear hW
       go_wp2_with fail
       go_meet
       exact ⟨W, An, cn, rfl, ⟨by rw [HW.out]; exact HZ.out HE0.out⟩, ⟨(Sep.drop1 (Sep.jO (Sep.xA H.out)))⟩⟩
      ·
       have he1 : (e == 0) = false := by simpa using he
       go_wp2_with fail
       go_meet
       exact ⟨wa, Ao, co, rfl, ⟨HNZ.out he⟩, ⟨(Sep.gK (Sep.rV H.out))⟩⟩
     case rest =>
      obtain ⟨Ew, Aw, cw, rfl, HQB, n_⟩ := hcut
      clear H c_p z_p c_x z_x c_q c_t
      have H := n_
      clear n_
      have c_p := H.out.cell (g := gp) mem2
      have c_q := H.out.cell (g := gq) mem3
      rename_i hK_
      refine hK_ _ _ ?_
      clear hK_
      go_upto_region 21 with fail
      go_cut [118] (fun qiD wx => (∃ bb, qiD = .bool bb) ∧ aA (Sep w wx [row k41 41 (.slice Aw (Ew).length cw) Ew, row k67 67 (.slice A2 (R.L.l).length c2) R.L.l, box gp [.slice A2 R.L.l.length c2, .bool R.L.dn, .int .i64 R.L.fu, .int .i64 R.L.fa, .int .i64 R.L.size, .int .u64 R.L.fr, .int .u64 R.L.nx, .bool R.L.br, .slice B2 R.es.length d2, .int .i64 R.most] 33, box gq [.slice A Q.L.l.length c, .bool Q.L.dn, .int .i64 fuse, .int .i64 fault, .int .i64 Q.L.size, .int .u64 Q.L.fr, .int .u64 Q.L.nx, .bool Q.L.br, .slice B Q.es.length d, .int .i64 Q.most] 33]))
      case first =>
       by_cases h8 : e = 8
       ·
        have hb8 : (e == 8) = true := by simp [h8]
        by_cases hlm : (Q.es.length : Int) ≥ Q.most
        ·
         have qiE : Q.most ≤ (Q.es.length : Int) := hlm
         go_wp2_with fail
         go_meet
         exact ⟨⟨_, rfl⟩, H⟩
        ·
         have qiE : ¬ Q.most ≤ (Q.es.length : Int) := hlm
         subst h8
         go_wp2_with fail
         go_meet
         exact ⟨⟨_, rfl⟩, H⟩
       ·
        have hb8 : (e == 8) = false := by simpa using h8
        by_cases h4 : e = 4
        ·
         have hb4 : (e == 4) = true := by simp [h4]
         go_wp2_with fail
         go_meet
         exact ⟨⟨_, rfl⟩, H⟩
        ·
         have hb4 : (e == 4) = false := by simpa using h4
         by_cases h19 : e = 19
         ·
          have qfK : (e == 19) = true := by simp [h19]
          go_wp2_with fail
          go_meet
          exact ⟨⟨_, rfl⟩, H⟩
         ·
          have qfK : (e == 19) = false := by simpa using h19
          by_cases h7 : e = 7
          ·
           have hb7 : (e == 7) = true := by simp [h7]
           go_wp2_with fail
           go_meet
           exact ⟨⟨_, rfl⟩, H⟩
          ·
           have hb7 : (e == 7) = false := by simpa using h7
           by_cases h5 : e = 5
           ·
            have hb5 : (e == 5) = true := by simp [h5]
            go_wp2_with fail
            go_meet
            exact ⟨⟨_, rfl⟩, H⟩
           ·
            have hb5 : (e == 5) = false := by simpa using h5
            go_wp2_with fail
            go_meet
            exact ⟨⟨_, rfl⟩, H⟩
      case rest =>
       obtain ⟨⟨bb, rfl⟩, n_⟩ := hcut
       clear H c_p c_q
       have H := n_
       clear n_
       have c_p := H.out.cell (g := gp) mem2
       have c_q := H.out.cell (g := gq) mem3
       go_upto_if 118 with fail
       go_cut [25] (fun v25 wx => aA (Sep w wx [row k41 41 (.slice Aw (Ew).length cw) Ew, row k67 67 (.slice A2 (R.L.l).length c2) R.L.l, box gp [.slice A2 R.L.l.length c2, .bool R.L.dn, .int .i64 R.L.fu, .int .i64 R.L.fa, .int .i64 R.L.size, .int .u64 R.L.fr, .int .u64 R.L.nx, .bool R.L.br, .slice B2 R.es.length d2, .int .i64 R.most] 33, box gq [.slice A Q.L.l.length c, .bool Q.L.dn, .int .i64 fuse, .int .i64 fault, .int .i64 Q.L.size, .int .u64 Q.L.fr, .int .u64 Q.L.nx, .bool Q.L.br, .slice B Q.es.length d, .int .i64 Q.most] 33]))
       case first =>
        cases bb
        ·go_wp2_with fail
         go_meet
         exact H
        ·go_wp2_with fail
         go_meet
         exact H
       case rest =>
        have n_ := hcut
        clear hcut
        clear H c_p c_q
        have H := n_
        clear n_
        have c_p := H.out.cell (g := gp) mem2
        have c_q := H.out.cell (g := gq) mem3
        try (rename_i hK_; refine hK_ _ _ ?_; clear hK_)
        have n_ : aA (Sep w wc [row k41 41 (.slice Aw (Ew).length cw) Ew, row k67 67 (.slice A2 (R.L.l).length c2) R.L.l, box gp [.slice A2 R.L.l.length c2, .bool R.L.dn, .int .i64 R.L.fu, .int .i64 R.L.fa, .int .i64 R.L.size, .int .u64 R.L.fr, .int .u64 R.L.nx, .bool R.L.br, .slice B2 R.es.length d2, .int .i64 R.most] 33]) := ⟨(Sep.gK H.out)⟩
        clear H c_p c_q
        have H := n_
        clear n_
        have c_p := H.out.cell (g := gp) mem2
        have HEL : aA (Ew.length ≤ 1024) := ⟨HQB.out.2⟩
        obtain ⟨L5, hop⟩ := HQB.out.opens HM0.out.2.1 HM0.out.2.2 HM0.out.1.1 HM0.out.1.2
        have HOP := aA.mk (fun A c w hr hc hG => vU A c (dG R.L.l ks) false (-1) (-1) size most w hr hc hG)
        rw [hop] at HOP
        obtain ⟨hok, qcn, _⟩ := TS hop
        have HCK : aA (bJ.f (Ew.length + 3) L5.l L5.dn L5.fu L5.fa L5.size L5.fr L5.nx L5.br Ew most = some 0) := ⟨by
         have h := I7 ⟨L5, Ew, most⟩ qcn.1 (by have := HEL.out; show Ew.length ≤ _; omega)
         rw [if_pos hok] at h
         exact h⟩
        simp only [qc, lgc, List.cons_append, List.nil_append] at HOP
        clear hop hok qcn
        go_wp2_with fail
        refine ((oW.calls A2 c2 R.L.l R.L.dn R.L.fu R.L.fa Ak ck ks (dG R.L.l ks) false (-1) (-1) 0 _ (H.out.reads mem1).2.2 (H.out.reads mem1).2.1 (H.out.came HRk.out) HCk.out (by rw [oW.f, if_pos HRT.out])).mono ?_)
        rintro e qeB ⟨v_, rfl, ho_, hb_⟩
        obtain ⟨Acr, ccr, eo_⟩ := Kd.dQ ho_
        subst eo_
        have n_ : aA (Sep w qeB [row k67 67 (.slice Acr ((dG R.L.l ks)).length ccr) ((dG R.L.l ks)), row k41 41 (.slice Aw (Ew).length cw) Ew, row k67 67 (.slice A2 (R.L.l).length c2) R.L.l, box gp [.slice A2 R.L.l.length c2, .bool R.L.dn, .int .i64 R.L.fu, .int .i64 R.L.fa, .int .i64 R.L.size, .int .u64 R.L.fr, .int .u64 R.L.nx, .bool R.L.br, .slice B2 R.es.length d2, .int .i64 R.most] 33]) := ⟨Sep.iY H.out hb_ ho_ lJ⟩
        clear H c_p
        have H := n_
        clear n_
        have c_p := H.out.cell (g := gp) mem3
        clear ho_ hb_
        have n_ : aA (Sep w qeB [row k67 67 (.slice Acr ((dG R.L.l ks)).length ccr) ((dG R.L.l ks)), row k41 41 (.slice Aw (Ew).length cw) Ew]) := ⟨(Sep.drop2 (Sep.gK H.out))⟩
        clear H c_p
        have H := n_
        clear n_
        go_wp2_with (first
 |((with_reducible refine aP (N := 26) rfl ?_);
   refine bG rfl H (cs := [.slice none 0 0, .bool false, .int .i64 0, .int .i64 0]) (t := 27) ?hr ?_;
   (case hr => first | (go_simp; done) | (go_simp; rfl));
   intro gd qin n_;
   simp only [Act.put, zA, zZ, zS];
   clear H;
   have H := n_;
   clear n_;
   have c_d := H.out.cell (g := gd) aJ;
   have z_d := H.out.frozen (g := gd) aJ)
 |((with_reducible refine aN (t := 27) (p := 26) rfl ?_);
   refine aZ (rs1 := [box gd [.slice Acr (dG R.L.l ks).length ccr, .bool false, .int .i64 (-1), .int .i64 (-1)] 27, row k67 67 (.slice Acr ((dG R.L.l ks)).length ccr) ((dG R.L.l ks)), row k41 41 (.slice Aw (Ew).length cw) Ew]) rfl (t := 27) (p := 26) rfl rfl ?hr (H1 := (Sep.set0 (Sep.set0 (Sep.set0 (Sep.set0 H.out 0 (.slice Acr (dG R.L.l ks).length ccr) rfl) 1 (.bool false) rfl) 2 (.int .i64 (-1)) rfl) 3 (.int .i64 (-1)) rfl)) ?_;
   (case hr => first | (go_simp; done) | (go_simp; rfl));
   intro qft n_;
   clear H c_d z_d;
   have H := n_;
   clear n_;
   have c_d := H.out.cell (g := gd) aJ;
   have z_d := H.out.frozen (g := gd) aJ)
 |fail)
        refine ((HOP.out _ _ _ (H.out.reads mem1).2.2 (H.out.reads mem1).2.1 (HG.out.below H.out.below)).mono ?_)
        rintro e qeC ⟨A5, c5, B5, d5, rfl, HJ⟩
        have n_ : aA (Sep w qeC [row k67 67 (.slice A5 (L5.l).length c5) L5.l, row k41 41 (.slice B5 (Ew).length d5) Ew, box gd [.slice Acr (dG R.L.l ks).length ccr, .bool false, .int .i64 (-1), .int .i64 (-1)] 27, row k67 67 (.slice Acr ((dG R.L.l ks)).length ccr) ((dG R.L.l ks)), row k41 41 (.slice Aw (Ew).length cw) Ew]) := ⟨eY H.out HJ.out⟩
        clear H c_d z_d
        have H := n_
        clear n_
        have c_d := H.out.cell (g := gd) mem2
        have z_d := H.out.frozen (g := gd) mem2
        clear HJ
        clear HOP
        try simp only [qc, lgc, List.cons_append, List.nil_append]
        have n_ : aA (Sep w qeC [row k67 67 (.slice A5 (L5.l).length c5) L5.l, row k41 41 (.slice B5 (Ew).length d5) Ew, row k41 41 (.slice Aw (Ew).length cw) Ew]) := ⟨(Sep.drop2 (Sep.gK H.out))⟩
        clear H c_d z_d
        have H := n_
        clear n_
        go_wp2_with (first
 |((with_reducible refine aP (N := 28) rfl ?_);
   refine bG rfl H (cs := [.slice none 0 0, .bool false, .int .i64 0, .int .i64 0, .int .i64 0, .int .u64 0, .int .u64 0, .bool false, .slice none 0 0, .int .i64 0]) (t := 33) ?hr ?_;
   (case hr => first | (go_simp; done) | (go_simp; rfl));
   intro gr qio n_;
   simp only [Act.put, zA, zZ, zS];
   clear H;
   have H := n_;
   clear n_;
   have c_r := H.out.cell (g := gr) aJ;
   have z_r := H.out.frozen (g := gr) aJ)
 |((with_reducible refine aN (t := 33) (p := 28) rfl ?_);
   refine aZ (rs1 := [box gr [.slice A5 L5.l.length c5, .bool L5.dn, .int .i64 L5.fu, .int .i64 L5.fa, .int .i64 L5.size, .int .u64 L5.fr, .int .u64 L5.nx, .bool L5.br, .slice B5 Ew.length d5, .int .i64 most] 33, row k67 67 (.slice A5 (L5.l).length c5) L5.l, row k41 41 (.slice B5 (Ew).length d5) Ew, row k41 41 (.slice Aw (Ew).length cw) Ew]) rfl (t := 33) (p := 28) rfl rfl ?hr (H1 := (Sep.set0 (Sep.set0 (Sep.set0 (Sep.set0 (Sep.set0 (Sep.set0 (Sep.set0 (Sep.set0 (Sep.set0 (Sep.set0 H.out 0 (.slice A5 L5.l.length c5) rfl) 1 (.bool L5.dn) rfl) 2 (.int .i64 L5.fu) rfl) 3 (.int .i64 L5.fa) rfl) 4 (.int .i64 L5.size) rfl) 5 (.int .u64 L5.fr) rfl) 6 (.int .u64 L5.nx) rfl) 7 (.bool L5.br) rfl) 8 (.slice B5 Ew.length d5) rfl) 9 (.int .i64 most) rfl)) ?_;
   (case hr => first | (go_simp; done) | (go_simp; rfl));
   intro qfu n_;
   clear H c_r z_r;
   have H := n_;
   clear n_;
   have c_r := H.out.cell (g := gr) aJ;
   have z_r := H.out.frozen (g := gr) aJ)
 |fail)
        refine ((bJ.calls (Ew.length + 3) A5 c5 L5.l L5.dn L5.fu L5.fa L5.size L5.fr L5.nx L5.br B5 d5 Ew most 0 _ (H.out.reads mem1).2.2 (H.out.reads mem1).2.1 (H.out.reads mem2).2.2 (H.out.reads mem2).2.1 HCK.out).mono ?_)
        rintro e qfv ⟨rfl, hb_⟩
        have n_ : aA (Sep w qfv [box gr [.slice A5 L5.l.length c5, .bool L5.dn, .int .i64 L5.fu, .int .i64 L5.fa, .int .i64 L5.size, .int .u64 L5.fr, .int .u64 L5.nx, .bool L5.br, .slice B5 Ew.length d5, .int .i64 most] 33, row k67 67 (.slice A5 (L5.l).length c5) L5.l, row k41 41 (.slice B5 (Ew).length d5) Ew, row k41 41 (.slice Aw (Ew).length cw) Ew]) := ⟨H.out.step hb_⟩
        clear H c_r z_r
        have H := n_
        clear n_
        have c_r := H.out.cell (g := gr) aJ
        have z_r := H.out.frozen (g := gr) aJ
        clear hb_
        go_wp2_with fail
        refine ((bQ.calls (Ew.length + 1) B5 d5 Ew Aw cw Ew true _ (H.out.reads mem2).2.2 (H.out.reads mem2).2.1 (H.out.reads mem3).2.2 (H.out.reads mem3).2.1 (N8 Ew (by have := HEL.out; omega))).mono ?_)
        rintro e qfw ⟨rfl, hb_⟩
        have n_ : aA (Sep w qfw [box gr [.slice A5 L5.l.length c5, .bool L5.dn, .int .i64 L5.fu, .int .i64 L5.fa, .int .i64 L5.size, .int .u64 L5.fr, .int .u64 L5.nx, .bool L5.br, .slice B5 Ew.length d5, .int .i64 most] 33, row k67 67 (.slice A5 (L5.l).length c5) L5.l, row k41 41 (.slice B5 (Ew).length d5) Ew, row k41 41 (.slice Aw (Ew).length cw) Ew]) := ⟨H.out.step (eU.below hb_)⟩
        clear H c_r z_r
        have H := n_
        clear n_
        have c_r := H.out.cell (g := gr) aJ
        have z_r := H.out.frozen (g := gr) aJ
        clear hb_
        go_wp2_with fail
        go_ret
        exact ⟨by first | rfl | simp, H.out.below⟩
end Go.Proofs.U
namespace Go.Proofs.U
open Go.Proofs.YtanonhipicoigaaGreatDoor
open Go.ChangeShapes Go.WideShapes Go.ChangeAt Go.WideMaps Go.WideElems Go.RowKit
def segLaid : List (String × DataW Unit) := [("math/bits.deBruijn32tab", Rows.laid_math_bits_deBruijn32tab), ("math/bits.deBruijn64tab", Rows.laid_math_bits_deBruijn64tab), ("internal/strconv.uint64pow10", Rows.laid_internal_strconv_uint64pow10), ("strconv.ErrRange", Rows.laid_strconv_ErrRange), ("strconv.ErrSyntax", Rows.laid_strconv_ErrSyntax)]
theorem g7 : Tryz.prog.globalNamed "math/bits.deBruijn64tab" = some 7 := by kernel_rfl
theorem g5 : Tryz.prog.globalNamed "strconv.ErrRange" = some 5 := by kernel_rfl
theorem g4 : Tryz.prog.globalNamed "strconv.ErrSyntax" = some 4 := by kernel_rfl
theorem t7 : (Tryz.prog.globals[7]?).map (·.type) = some 286 := by kernel_rfl
theorem t5 : (Tryz.prog.globals[5]?).map (·.type) = some 214 := by kernel_rfl
theorem t4 : (Tryz.prog.globals[4]?).map (·.type) = some 214 := by kernel_rfl
theorem seg_met (os : Os) (args : Array Value) : laidMetH Tryz.prog segLaid ((World.doorLaid Tryz.prog 4000 os).forCall (fun _ _ => 0) ⟨#[], args, []⟩).memory :=
 laidMetH_of_parts3 (fuel := 8) (laidMet_of_run' 8 (by kernel_rfl) (by kernel_rfl)) (by kernel_rfl) (by kernel_rfl)
theorem gl_of_laid {W : World} (h : laidMetH Tryz.prog segLaid W) : Gl W := by
 rw [MakeChecks.laidMetH_plain _ _ _ (by kernel_rfl)] at h
 obtain ⟨ps, ⟨g0, t0, cs0, f0, p0, q0, hg0, ht0, hv0, hd0, ⟨g1, t1, cs1, f1, p1, q1, hg1, ht1, hv1, hd1, ⟨g2, t2, cs2, f2, p2, q2, hg2, ht2, hv2, hd2, ⟨g3, t3, cs3, f3, p3, q3, hg3, ht3, hv3, hd3, ⟨g4', t4', cs4, f4, p4, q4, hg4, ht4, hv4, hd4, _, _⟩, _⟩, _⟩, _⟩, _⟩, _, _⟩ := h
 obtain rfl := Option.some.inj (g7.symm.trans hg1)
 obtain rfl := Option.some.inj (g5.symm.trans hg3)
 obtain rfl := Option.some.inj (g4.symm.trans hg4)
 obtain rfl := Option.some.inj (t7.symm.trans ht1)
 obtain rfl := Option.some.inj (t5.symm.trans ht3)
 obtain rfl := Option.some.inj (t4.symm.trans ht4)
 have sent : ∀ {g : Nat} {n : String} {cs : Array Value} {f : Nat} {nm : String} {d : DataW Unit} {p : List MemPlace}, Tryz.prog.globalNamed n = some g → W.var? Tryz.prog n = some cs →
   DataW.trod (fun _ => ()) Tryz.prog W 0 (fun _ => true) false f 214 cs.toList = some (.iface nm d, p) → ∃ ev, W.cell? ⟨g, 0, none⟩ = some ev ∧ (ev = .nilIface ∨ ∃ te pe, ev = .iface te pe) := by
  intro g n cs f nm d p hg hv hd
  obtain ⟨_, u, v, hcs, _⟩ := iface_of_trod Tryz.underlying214 hd
  have hc := World.var?_cell hg hv 0
  rw [Array.eq_one_of_toList hcs] at hc
  exact ⟨.iface u v, by simpa using hc, .inr ⟨u, v, rfl⟩⟩
 refine ⟨?_, sent hg4 hv4 hd4, sent hg3 hv3 hd3⟩
 obtain ⟨xs, m1, hx1, hx2, hlen, hn3, hel⟩ := DataW.trod_array Tryz.underlying286 hd1
 obtain ⟨L, eL, e15⟩ : ∃ L : List (DataW Unit), Rows.laid_math_bits_deBruijn64tab = .agg L ∧ L[15]? = some (.lit (.int .u8 4)) := ⟨_, rfl, rfl⟩
 have hx3 := (Prod.mk.inj hx2).1
 rw [eL] at hx3
 injection hx3 with hx3
 rw [hx3, List.getElem?_map] at e15
 obtain ⟨x15, hx15, hxe⟩ := Option.map_eq_some_iff.1 e15
 have h15 := hel 15 (by decide)
 rw [hx15, show Tryz.prog.cellsOf 5 = 1 by kernel_rfl] at h15
 obtain ⟨k, e1, e2, _⟩ := DataW.trod_int Tryz.underlying5 h15
 have hk : k = 4 := by
  rw [e2] at hxe
  simpa using hxe
 subst hk
 have hc := World.var?_cell hg1 hv1 15
 have hl : cs1.toList[15]? = some (.int .u8 4) := by
  have h := congrArg (·[0]?) e1
  simpa [List.getElem?_take, List.getElem?_drop] using h
 rw [hc]
 simpa using hl
end Go.Proofs.U
