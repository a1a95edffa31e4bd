import Derived.Test.YtanonhipicoigaaGreatDoorZRat
import Derived.Test.YtanonhipicoigaaGreatDoorZRag
set_option linter.unusedVariables false
set_option linter.unusedSimpArgs false
set_option maxRecDepth 100000
namespace Go.Proofs.U
open Go.RowKit Go.Proofs.aA.aK Go.Proofs.aA.aW Go.Proofs.aA.aX Go.Proofs.Sp Go.Proofs.gB
attribute [local go_sem] iD jB
theorem qbJ (w : World) : Kd.C k67 w none 0 [] := ⟨rfl, by simp, fun h => absurd h (Nat.lt_irrefl 0)⟩
theorem qbK (w : World) : Kd.C k41 w none 0 [] := ⟨rfl, by simp, fun h => absurd h (Nat.lt_irrefl 0)⟩
set_option maxHeartbeats 16000000 in
theorem VK (A : Option Addr) (c : Nat) (B : Option Addr) (d : Nat) (Q : Qu) (k : Int) (sd : ByteArray) (sq : Int) (w : World) (hr : Kd.C k67 w A Q.L.l.length Q.L.l) (hc : Q.L.l.length ≤ c) (hre : Kd.C k41 w B Q.es.length Q.es) (hce : Q.es.length ≤ d) (hG : Gl w) (h0 : 0 ≤ Q.L.fr) (hnx : 0 ≤ Q.L.nx) (hnx2 : Q.L.nx < 18446744073709551616) (hq0 : 0 ≤ sq) (hq1 : sq < 18446744073709551616) :
  Calls Tryz.prog 15 #[.agg (qc A c B d Q).toArray, .agg #[.int .u8 k, .string sd, .int .u64 sq]] w fun e w' => e = .returned (.bool true) ∧ Below w.heap.size w w' := by
 have HRp := aC.mk hr
 have HCp := aC.mk hc
 have HRe := aC.mk hre
 have HCe := aC.mk hce
 have HCd := aC.mk (Kd.VO hre : Q.es.length ≤ 9223372036854775807)
 have HG := aC.mk hG
 have HF := aC.mk h0
 obtain ⟨P, X, e, hO⟩ : ∃ P X e, doQ Q k sd sq = (P, X, e) := ⟨_, _, _, rfl⟩
 have HD := aC.mk (qdS A c B d Q k sd sq)
 rw [hO] at HD
 dsimp only at HD
 have HD := aC.mk (fun w hr hc hre hce hG => HD.out w hr hc hre hce hG h0 hnx hnx2 hq0 hq1)
 have HO := aC.mk hO
 clear hr hc hre hce hG h0 hnx hnx2 hq0 hq1 hO
 simp only [qc, lgc, List.cons_append, List.nil_append]
 have H := aC.mk (Sep.start w)
 go_enter Tryz.func15, Tryz.ntmps15
 go_wp2_with (first
 |((with_reducible refine aU (N := 2) rfl ?_);
   refine bK rfl H (cs := [.slice A Q.L.l.length c, .bool Q.L.dn, .int .i64 Q.L.fu, .int .i64 Q.L.fa, .int .i64 Q.L.size, .int .u64 Q.L.fr, .int .u64 Q.L.nx, .bool Q.L.br, .slice B Q.es.length d, .int .i64 Q.most]) (t := 33) ?hr ?_;
   (case hr => first | (go_simp; done) | (go_simp; rfl));
   intro gq wd1 n_;
   simp only [Act.put, zA, zZ, zS];
   clear H;
   have H := n_;
   clear n_;
   have c_q := H.out.cell (g := gq) aP)
 |((with_reducible refine aU (N := 3) rfl ?_);
   refine bK rfl H (cs := [.int .u8 k, .string sd, .int .u64 sq]) (t := 84) ?hr ?_;
   (case hr => first | (go_simp; done) | (go_simp; rfl));
   intro gt wd2 n_;
   simp only [Act.put, zA, zZ, zS];
   clear H c_q;
   have H := n_;
   clear n_;
   have c_t := H.out.cell (g := gt) aP;
   have c_q := H.out.cell (g := gq) mem1)
 |fail)
 refine ((VJ _ (HG.out.below H.out.below)).mono ?_)
 rintro e wd3 ⟨rfl, hb_⟩
 have n_ : aC (Sep w wd3 [box gt [.int .u8 k, .string sd, .int .u64 sq] 84, box gq [.slice A Q.L.l.length c, .bool Q.L.dn, .int .i64 Q.L.fu, .int .i64 Q.L.fa, .int .i64 Q.L.size, .int .u64 Q.L.fr, .int .u64 Q.L.nx, .bool Q.L.br, .slice B Q.es.length d, .int .i64 Q.most] 33]) := ⟨H.out.step hb_⟩
 clear H c_t c_q
 have H := n_
 clear n_
 have c_t := H.out.cell (g := gt) aP
 have c_q := H.out.cell (g := gq) mem1
 clear hb_
 go_wp2_with fail
 refine ((HD.out _ (H.out.came HRp.out) HCp.out (H.out.came HRe.out) HCe.out (HG.out.below H.out.below)).mono ?_)
 rintro e wd4 ⟨A1, c1, B1, d1, rfl, HJ⟩
 have n_ : aC (Sep w wd4 [row k67 67 (.slice A1 (P.L.l).length c1) P.L.l, row k41 41 (.slice B1 (P.es).length d1) P.es, box gt [.int .u8 k, .string sd, .int .u64 sq] 84, box gq [.slice A Q.L.l.length c, .bool Q.L.dn, .int .i64 Q.L.fu, .int .i64 Q.L.fa, .int .i64 Q.L.size, .int .u64 Q.L.fr, .int .u64 Q.L.nx, .bool Q.L.br, .slice B Q.es.length d, .int .i64 Q.most] 33]) := ⟨fM H.out HJ.out⟩
 clear H c_t c_q
 have H := n_
 clear n_
 have c_t := H.out.cell (g := gt) mem2
 have c_q := H.out.cell (g := gq) mem3
 clear HJ
 simp only [qc, lgc, List.cons_append, List.nil_append]
 clear HD
 by_cases hok : okQ Q
 ·
  have qeV := qah k sd sq hok
  rw [HO.out] at qeV
  obtain ⟨⟨hfair, hsame, hlen, hfr⟩, hx⟩ := qeV
  dsimp only at hfair hsame hlen hfr hx
  have hlen2 : P.es.length ≤ 1024 := by
   have h1 := hok.2.2.1
   have h2 := hok.2.2.2.1
   omega
  have HFA := aC.mk hfair
  have HSA := aC.mk hsame
  have HX := aC.mk hx
  have HLN := aC.mk hlen
  have HL2 := aC.mk hlen2
  have HPF : aC (0 ≤ P.L.fr) := ⟨hfr HF.out⟩
  have HSM : aC (Q.L.l.length ≤ 64 ∧ Q.es.length ≤ 1024) := ⟨jZ hok.1.1, hok.2.2.2.1⟩
  have HCK : aC (bP.f (Q.es.length + 3) Q.L.l Q.L.dn Q.L.fu Q.L.fa Q.L.size Q.L.fr Q.L.nx Q.L.br Q.es Q.most = some 0) := ⟨by rw [yH Q HF.out (by have := HSM.out; omega), if_pos hok]⟩
  clear hfair hsame hlen hfr hx hlen2 hok
  go_wp2_with (first
 |((with_reducible refine aU (N := 5) rfl ?_);
   refine bK rfl H (cs := [.slice none 0 0, .bool false, .int .i64 0, .int .i64 0, .int .i64 0, .int .u64 0, .int .u64 0, .bool false, .slice none 0 0, .int .i64 0]) (t := 33) ?hr ?_;
   (case hr => first | (go_simp; done) | (go_simp; rfl));
   intro ga wd5 n_;
   simp only [Act.put, zA, zZ, zS];
   clear H c_t c_q;
   have H := n_;
   clear n_;
   have c_a := H.out.cell (g := ga) aP;
   have z_a := H.out.frozen (g := ga) aP;
   have c_t := H.out.cell (g := gt) mem3;
   have c_q := H.out.cell (g := gq) bT)
 |((with_reducible refine aU (N := 6) rfl ?_);
   refine bK rfl H (cs := [.int .u64 0, .string ⟨#[]⟩, .bool false]) (t := 41) ?hr ?_;
   (case hr => first | (go_simp; done) | (go_simp; rfl));
   intro gx wd6 n_;
   simp only [Act.put, zA, zZ, zS];
   clear H c_a z_a c_t c_q;
   have H := n_;
   clear n_;
   have c_x := H.out.cell (g := gx) aP;
   have z_x := H.out.frozen (g := gx) aP;
   have c_a := H.out.cell (g := ga) mem1;
   have z_a := H.out.frozen (g := ga) mem1;
   have c_t := H.out.cell (g := gt) bT;
   have c_q := H.out.cell (g := gq) dM)
 |((with_reducible refine aV (t := 33) (p := 5) rfl ?_);
   refine bH (rs1 := [box gx [.int .u64 0, .string ⟨#[]⟩, .bool false] 41, box ga [.slice A1 P.L.l.length c1, .bool P.L.dn, .int .i64 P.L.fu, .int .i64 P.L.fa, .int .i64 P.L.size, .int .u64 P.L.fr, .int .u64 P.L.nx, .bool P.L.br, .slice B1 P.es.length d1, .int .i64 P.most] 33, row k67 67 (.slice A1 (P.L.l).length c1) P.L.l, row k41 41 (.slice B1 (P.es).length d1) P.es, box gt [.int .u8 k, .string sd, .int .u64 sq] 84, box gq [.slice A Q.L.l.length c, .bool Q.L.dn, .int .i64 Q.L.fu, .int .i64 Q.L.fa, .int .i64 Q.L.size, .int .u64 Q.L.fr, .int .u64 Q.L.nx, .bool Q.L.br, .slice B Q.es.length d, .int .i64 Q.most] 33]) rfl (t := 33) (p := 5) rfl rfl ?hr (H1 := (Sep.set1 (Sep.set1 (Sep.set1 (Sep.set1 (Sep.set1 (Sep.set1 (Sep.set1 (Sep.set1 (Sep.set1 (Sep.set1 H.out 0 (.slice A1 P.L.l.length c1) rfl) 1 (.bool P.L.dn) rfl) 2 (.int .i64 P.L.fu) rfl) 3 (.int .i64 P.L.fa) rfl) 4 (.int .i64 P.L.size) rfl) 5 (.int .u64 P.L.fr) rfl) 6 (.int .u64 P.L.nx) rfl) 7 (.bool P.L.br) rfl) 8 (.slice B1 P.es.length d1) rfl) 9 (.int .i64 P.most) rfl)) ?_;
   (case hr => first | (go_simp; done) | (go_simp; rfl));
   intro wd7 n_;
   clear H c_x z_x c_a z_a c_t c_q;
   have H := n_;
   clear n_;
   have c_x := H.out.cell (g := gx) aP;
   have z_x := H.out.frozen (g := gx) aP;
   have c_a := H.out.cell (g := ga) mem1;
   have z_a := H.out.frozen (g := ga) mem1;
   have c_t := H.out.cell (g := gt) bT;
   have c_q := H.out.cell (g := gq) dM)
 |((with_reducible refine aV (t := 41) (p := 6) rfl ?_);
   refine bH (rs1 := [box gx [.int .u64 X.f0, .string X.f1, .bool X.f2] 41, box ga [.slice A1 P.L.l.length c1, .bool P.L.dn, .int .i64 P.L.fu, .int .i64 P.L.fa, .int .i64 P.L.size, .int .u64 P.L.fr, .int .u64 P.L.nx, .bool P.L.br, .slice B1 P.es.length d1, .int .i64 P.most] 33, row k67 67 (.slice A1 (P.L.l).length c1) P.L.l, row k41 41 (.slice B1 (P.es).length d1) P.es, box gt [.int .u8 k, .string sd, .int .u64 sq] 84, box gq [.slice A Q.L.l.length c, .bool Q.L.dn, .int .i64 Q.L.fu, .int .i64 Q.L.fa, .int .i64 Q.L.size, .int .u64 Q.L.fr, .int .u64 Q.L.nx, .bool Q.L.br, .slice B Q.es.length d, .int .i64 Q.most] 33]) rfl (t := 41) (p := 6) rfl rfl ?hr (H1 := (Sep.set0 (Sep.set0 (Sep.set0 H.out 0 (.int .u64 X.f0) rfl) 1 (.string X.f1) rfl) 2 (.bool X.f2) rfl)) ?_;
   (case hr => first | (go_simp; done) | (go_simp; rfl));
   intro wd8 n_;
   clear H c_x z_x c_a z_a c_t c_q;
   have H := n_;
   clear n_;
   have c_x := H.out.cell (g := gx) aP;
   have z_x := H.out.frozen (g := gx) aP;
   have c_a := H.out.cell (g := ga) mem1;
   have z_a := H.out.frozen (g := ga) mem1;
   have c_t := H.out.cell (g := gt) bT;
   have c_q := H.out.cell (g := gq) dM)
 |fail)
  refine ((bP.calls (Q.es.length + 3) A c Q.L.l Q.L.dn Q.L.fu Q.L.fa Q.L.size Q.L.fr Q.L.nx Q.L.br B d Q.es Q.most 0 _ (H.out.came HRp.out) HCp.out (H.out.came HRe.out) HCe.out HCK.out).mono ?_)
  rintro e wd9 ⟨rfl, hb_⟩
  have n_ : aC (Sep w wd9 [box gx [.int .u64 X.f0, .string X.f1, .bool X.f2] 41, box ga [.slice A1 P.L.l.length c1, .bool P.L.dn, .int .i64 P.L.fu, .int .i64 P.L.fa, .int .i64 P.L.size, .int .u64 P.L.fr, .int .u64 P.L.nx, .bool P.L.br, .slice B1 P.es.length d1, .int .i64 P.most] 33, row k67 67 (.slice A1 (P.L.l).length c1) P.L.l, row k41 41 (.slice B1 (P.es).length d1) P.es, box gt [.int .u8 k, .string sd, .int .u64 sq] 84, box gq [.slice A Q.L.l.length c, .bool Q.L.dn, .int .i64 Q.L.fu, .int .i64 Q.L.fa, .int .i64 Q.L.size, .int .u64 Q.L.fr, .int .u64 Q.L.nx, .bool Q.L.br, .slice B Q.es.length d, .int .i64 Q.most] 33]) := ⟨H.out.step hb_⟩
  clear H c_x z_x c_a z_a c_t c_q
  have H := n_
  clear n_
  have c_x := H.out.cell (g := gx) aP
  have z_x := H.out.frozen (g := gx) aP
  have c_a := H.out.cell (g := ga) mem1
  have z_a := H.out.frozen (g := ga) mem1
  have c_t := H.out.cell (g := gt) bT
  have c_q := H.out.cell (g := gq) dM
  clear hb_
  go_upto_region 6 with fail
  go_cut [60] (fun v60 wx => v60 = .bool false ∧ aC (Sep w wx [box gx [.int .u64 X.f0, .string X.f1, .bool X.f2] 41, box ga [.slice A1 P.L.l.length c1, .bool P.L.dn, .int .i64 P.L.fu, .int .i64 P.L.fa, .int .i64 P.L.size, .int .u64 P.L.fr, .int .u64 P.L.nx, .bool P.L.br, .slice B1 P.es.length d1, .int .i64 P.most] 33, row k67 67 (.slice A1 (P.L.l).length c1) P.L.l, row k41 41 (.slice B1 (P.es).length d1) P.es, box gt [.int .u8 k, .string sd, .int .u64 sq] 84, box gq [.slice A Q.L.l.length c, .bool Q.L.dn, .int .i64 Q.L.fu, .int .i64 Q.L.fa, .int .i64 Q.L.size, .int .u64 Q.L.fr, .int .u64 Q.L.nx, .bool Q.L.br, .slice B Q.es.length d, .int .i64 Q.most] 33]))
  case first =>
   by_cases qd0 : okQ P
   ·
    have HCP : aC (bP.f (P.es.length + 3) P.L.l P.L.dn P.L.fu P.L.fa P.L.size P.L.fr P.L.nx P.L.br P.es P.most = some 0) := ⟨by rw [yH P HPF.out (by have := HL2.out; omega), if_pos qd0]⟩
    refine fO (n := 29) (S := fun w' => (∀ j : Nat, w'.cell? ⟨ga, j, none⟩ = [.slice A1 P.L.l.length c1, .bool P.L.dn, .int .i64 P.L.fu, .int .i64 P.L.fa, .int .i64 P.L.size, .int .u64 P.L.fr, .int .u64 P.L.nx, .bool P.L.br, .slice B1 P.es.length d1, .int .i64 P.most][j]?) ∧ Sp.Sep w w' [box gx [.int .u64 X.f0, .string X.f1, .bool X.f2] 41, box ga [.slice A1 P.L.l.length c1, .bool P.L.dn, .int .i64 P.L.fu, .int .i64 P.L.fa, .int .i64 P.L.size, .int .u64 P.L.fr, .int .u64 P.L.nx, .bool P.L.br, .slice B1 P.es.length d1, .int .i64 P.most] 33, row k67 67 (.slice A1 (P.L.l).length c1) P.L.l, row k41 41 (.slice B1 (P.es).length d1) P.es, box gt [.int .u8 k, .string sd, .int .u64 sq] 84, box gq [.slice A Q.L.l.length c, .bool Q.L.dn, .int .i64 Q.L.fu, .int .i64 Q.L.fa, .int .i64 Q.L.size, .int .u64 Q.L.fr, .int .u64 Q.L.nx, .bool Q.L.br, .slice B Q.es.length d, .int .i64 Q.most] 33]) (ds := []) #[false, false, false, false, false, false, false, false, false, false, false, false, false, false, false, false, false, false, false, false, false, false, false, false, false, false, false, false, false] (by kernel_rfl) rfl rfl ⟨(fun j => ((Sep.drew H.out)).cell (g := ga) mem1 j), (Sep.drew H.out)⟩ (fun hHeld => ?_)
    clear c_x z_x c_a z_a c_t c_q H HRp HCp HRe HCe HCd HG HF HO HFA HSA HX HLN HPF HL2 HSM HCK
    refine tkS (i := 0) (N := some 32) (v := ?_) (a' := ?_) rfl rfl (by kernel_rfl) (fun _ _ _ h => h) (Or.inl ⟨by rfl, ?_⟩) hHeld ?_ ?_
    rotate_left
    ·rintro w' ⟨s0, s1⟩
     go_simp
     with_reducible rfl
    rotate_left
    ·simp only [Act.put, zA, zZ, zS, aI, aJ]
     rfl
    refine onS (i := 1) (N := some 33) rfl rfl (by kernel_rfl) (by decide) (fun K hK => ?_)
    refine oC Tryz.func39 (by kernel_rfl) rfl #[.agg #[.slice A1 P.L.l.length c1, .bool P.L.dn, .int .i64 P.L.fu, .int .i64 P.L.fa, .int .i64 P.L.size, .int .u64 P.L.fr, .int .u64 P.L.nx, .bool P.L.br, .slice B1 P.es.length d1, .int .i64 P.most]] (by rfl) rfl rfl (by simp only [List.map_toArray, List.map_cons, List.map_nil]; rfl) ?_
    with_reducible refine (bP.calls (P.es.length + 3) A1 c1 P.L.l P.L.dn P.L.fu P.L.fa P.L.size P.L.fr P.L.nx P.L.br B1 d1 P.es P.most 0 _ (Sep.reads hHeld.2 mem2).2.2 (Sep.reads hHeld.2 mem2).2.1 (Sep.reads hHeld.2 mem3).2.2 (Sep.reads hHeld.2 mem3).2.1 HCP.out).mono ?_
    rintro e w5 ⟨rfl, hb5⟩
    refine ⟨_, rfl, ?_⟩
    refine hK.out _ _ ⟨(fun j => ((Sep.step hHeld.2 hb5)).cell (g := ga) mem1 j), (Sep.step hHeld.2 hb5)⟩ (fun hHeld => ?_)
    clear hK K
    refine fE (a' := ?_) ?_ ?_
    rotate_left
    ·show Act.put _ (some 33) _ = _
     simp only [Act.put, zA, zZ, zS, aI, aJ]
     rfl
    refine puS (i := 2) (N := some 34) (v := ?_) (a' := ?_) rfl rfl (by kernel_rfl) (fun _ _ _ h => h) (Or.inl ⟨by rfl, ?_⟩) ?_ ?_
    rotate_left
    ·intro w'
     go_simp
     with_reducible rfl
    rotate_left
    ·simp only [Act.put, zA, zZ, zS, aI, aJ]
     rfl
    refine puS (i := 3) (N := some 35) (v := ?_) (a' := ?_) rfl rfl (by kernel_rfl) (fun _ _ _ h => h) (Or.inl ⟨by rfl, ?_⟩) ?_ ?_
    rotate_left
    ·intro w'
     go_simp
     with_reducible rfl
    rotate_left
    ·simp only [Act.put, zA, zZ, zS, aI, aJ]
     rfl
    refine puS (i := 4) (N := some 36) (v := undef) (a' := ?_) rfl rfl (by kernel_rfl) (fun _ _ _ h => h) (Or.inr ⟨by rfl, rfl⟩) ?_ ?_
    rotate_left
    ·simp only [Act.put, zA, zZ, zS, aI, aJ]
     rfl
    refine puS (i := 5) (N := some 37) (v := undef) (a' := ?_) rfl rfl (by kernel_rfl) (fun _ _ _ h => h) (Or.inr ⟨by rfl, rfl⟩) ?_ ?_
    rotate_left
    ·simp only [Act.put, zA, zZ, zS, aI, aJ]
     rfl
    refine puS (i := 6) (N := some 38) (v := undef) (a' := ?_) rfl rfl (by kernel_rfl) (fun _ _ _ h => h) (Or.inr ⟨by rfl, rfl⟩) ?_ ?_
    rotate_left
    ·simp only [Act.put, zA, zZ, zS, aI, aJ]
     rfl
    refine puS (i := 7) (N := some 39) (v := undef) (a' := ?_) rfl rfl (by kernel_rfl) (fun _ _ _ h => h) (Or.inr ⟨by rfl, rfl⟩) ?_ ?_
    rotate_left
    ·simp only [Act.put, zA, zZ, zS, aI, aJ]
     rfl
    refine puS (i := 8) (N := some 40) (v := undef) (a' := ?_) rfl rfl (by kernel_rfl) (fun _ _ _ h => h) (Or.inr ⟨by rfl, rfl⟩) ?_ ?_
    rotate_left
    ·simp only [Act.put, zA, zZ, zS, aI, aJ]
     rfl
    refine puS (i := 9) (N := some 41) (v := undef) (a' := ?_) rfl rfl (by kernel_rfl) (fun _ _ _ h => h) (Or.inr ⟨by rfl, rfl⟩) ?_ ?_
    rotate_left
    ·simp only [Act.put, zA, zZ, zS, aI, aJ]
     rfl
    refine puS (i := 10) (N := some 42) (v := undef) (a' := ?_) rfl rfl (by kernel_rfl) (fun _ _ _ h => h) (Or.inr ⟨by rfl, rfl⟩) ?_ ?_
    rotate_left
    ·simp only [Act.put, zA, zZ, zS, aI, aJ]
     rfl
    refine puS (i := 11) (N := some 43) (v := ?_) (a' := ?_) rfl rfl (by kernel_rfl) (fun _ _ _ h => h) (Or.inl ⟨by rfl, ?_⟩) ?_ ?_
    rotate_left
    ·intro w'
     go_simp
     with_reducible rfl
    rotate_left
    ·simp only [Act.put, zA, zZ, zS, aI, aJ]
     rfl
    refine puS (i := 12) (N := some 44) (v := ?_) (a' := ?_) rfl rfl (by kernel_rfl) (fun _ _ _ h => h) (Or.inl ⟨by rfl, ?_⟩) ?_ ?_
    rotate_left
    ·intro w'
     go_simp
     with_reducible rfl
    rotate_left
    ·simp only [Act.put, zA, zZ, zS, aI, aJ]
     rfl
    refine puS (i := 13) (N := some 45) (v := undef) (a' := ?_) rfl rfl (by kernel_rfl) (fun _ _ _ h => h) (Or.inr ⟨by rfl, rfl⟩) ?_ ?_
    rotate_left
    ·simp only [Act.put, zA, zZ, zS, aI, aJ]
     rfl
    refine puS (i := 14) (N := some 46) (v := undef) (a' := ?_) rfl rfl (by kernel_rfl) (fun _ _ _ h => h) (Or.inr ⟨by rfl, rfl⟩) ?_ ?_
    rotate_left
    ·simp only [Act.put, zA, zZ, zS, aI, aJ]
     rfl
    refine puS (i := 15) (N := some 47) (v := undef) (a' := ?_) rfl rfl (by kernel_rfl) (fun _ _ _ h => h) (Or.inr ⟨by rfl, rfl⟩) ?_ ?_
    rotate_left
    ·simp only [Act.put, zA, zZ, zS, aI, aJ]
     rfl
    refine puS (i := 16) (N := some 48) (v := undef) (a' := ?_) rfl rfl (by kernel_rfl) (fun _ _ _ h => h) (Or.inr ⟨by rfl, rfl⟩) ?_ ?_
    rotate_left
    ·simp only [Act.put, zA, zZ, zS, aI, aJ]
     rfl
    refine puS (i := 17) (N := some 49) (v := ?_) (a' := ?_) rfl rfl (by kernel_rfl) (fun _ _ _ h => h) (Or.inl ⟨by rfl, ?_⟩) ?_ ?_
    rotate_left
    ·intro w'
     go_simp
     with_reducible rfl
    rotate_left
    ·simp only [Act.put, zA, zZ, zS, aI, aJ]
     rfl
    refine puS (i := 18) (N := some 50) (v := ?_) (a' := ?_) rfl rfl (by kernel_rfl) (fun _ _ _ h => h) (Or.inl ⟨by rfl, ?_⟩) ?_ ?_
    rotate_left
    ·intro w'
     go_simp
     with_reducible rfl
    rotate_left
    ·simp only [Act.put, zA, zZ, zS, aI, aJ]
     rfl
    refine puS (i := 19) (N := some 51) (v := undef) (a' := ?_) rfl rfl (by kernel_rfl) (fun _ _ _ h => h) (Or.inr ⟨by rfl, rfl⟩) ?_ ?_
    rotate_left
    ·simp only [Act.put, zA, zZ, zS, aI, aJ]
     rfl
    refine puS (i := 20) (N := some 52) (v := undef) (a' := ?_) rfl rfl (by kernel_rfl) (fun _ _ _ h => h) (Or.inr ⟨by rfl, rfl⟩) ?_ ?_
    rotate_left
    ·simp only [Act.put, zA, zZ, zS, aI, aJ]
     rfl
    refine puS (i := 21) (N := some 53) (v := undef) (a' := ?_) rfl rfl (by kernel_rfl) (fun _ _ _ h => h) (Or.inr ⟨by rfl, rfl⟩) ?_ ?_
    rotate_left
    ·simp only [Act.put, zA, zZ, zS, aI, aJ]
     rfl
    refine puS (i := 22) (N := some 54) (v := undef) (a' := ?_) rfl rfl (by kernel_rfl) (fun _ _ _ h => h) (Or.inr ⟨by rfl, rfl⟩) ?_ ?_
    rotate_left
    ·simp only [Act.put, zA, zZ, zS, aI, aJ]
     rfl
    refine puS (i := 23) (N := some 55) (v := undef) (a' := ?_) rfl rfl (by kernel_rfl) (fun _ _ _ h => h) (Or.inr ⟨by rfl, rfl⟩) ?_ ?_
    rotate_left
    ·simp only [Act.put, zA, zZ, zS, aI, aJ]
     rfl
    refine puS (i := 24) (N := some 56) (v := undef) (a' := ?_) rfl rfl (by kernel_rfl) (fun _ _ _ h => h) (Or.inr ⟨by rfl, rfl⟩) ?_ ?_
    rotate_left
    ·simp only [Act.put, zA, zZ, zS, aI, aJ]
     rfl
    refine puS (i := 25) (N := some 57) (v := undef) (a' := ?_) rfl rfl (by kernel_rfl) (fun _ _ _ h => h) (Or.inr ⟨by rfl, rfl⟩) ?_ ?_
    rotate_left
    ·simp only [Act.put, zA, zZ, zS, aI, aJ]
     rfl
    refine puS (i := 26) (N := some 58) (v := undef) (a' := ?_) rfl rfl (by kernel_rfl) (fun _ _ _ h => h) (Or.inr ⟨by rfl, rfl⟩) ?_ ?_
    rotate_left
    ·simp only [Act.put, zA, zZ, zS, aI, aJ]
     rfl
    refine puS (i := 27) (N := some 59) (v := undef) (a' := ?_) rfl rfl (by kernel_rfl) (fun _ _ _ h => h) (Or.inr ⟨by rfl, rfl⟩) ?_ ?_
    rotate_left
    ·simp only [Act.put, zA, zZ, zS, aI, aJ]
     rfl
    refine puS (i := 28) (N := some 60) (v := ?_) (a' := ?_) rfl rfl (by kernel_rfl) (fun _ _ _ h => h) (Or.inl ⟨by rfl, ?_⟩) ?_ ?_
    rotate_left
    ·intro w'
     go_simp
     with_reducible rfl
    rotate_left
    ·simp only [Act.put, zA, zZ, zS, aI, aJ]
     rfl
    refine iT (by kernel_rfl) ?_
    go_wp2_with fail
    go_meet
    exact ⟨rfl, ⟨hHeld.2⟩⟩
   ·
    have HCP : aC (bP.f (P.es.length + 3) P.L.l P.L.dn P.L.fu P.L.fa P.L.size P.L.fr P.L.nx P.L.br P.es P.most = some 6) := ⟨by rw [yH P HPF.out (by have := HL2.out; omega), if_neg qd0]⟩
    by_cases h1 : P.L.fr ≤ P.L.nx
    ·
     have h1b : decide (P.L.fr ≤ P.L.nx) = true := decide_eq_true h1
     by_cases h2 : 0 < P.es.length
     ·
      obtain ⟨x, hx⟩ : ∃ x, P.es[0]? = some x := ⟨_, List.getElem?_eq_getElem h2⟩
      have h3 : ¬ P.L.fr ≤ x.f0 := fun h3 => by
       rcases HFA.out with h4 | h4
       ·exact qd0 h4
       ·exact h4 ⟨h1, x, by rw [List.head?_eq_getElem?]; exact hx, h3⟩
      obtain ⟨gp, hgp⟩ := oW (B := B1) (d := d1) (es := P.es) H.out mem3 h2
      subst hgp
      have h2b : decide ((P.es.length : Int) > 0) = true := decide_eq_true (by omega)
      have h2c : ¬ ((P.es.length : Int) ≤ 0) := by omega
      have h3b : decide (x.f0 ≥ P.L.fr) = false := decide_eq_false h3
      refine fO (n := 29) (S := fun w' => (∀ j : Nat, w'.cell? ⟨ga, j, none⟩ = [.slice A1 P.L.l.length c1, .bool P.L.dn, .int .i64 P.L.fu, .int .i64 P.L.fa, .int .i64 P.L.size, .int .u64 P.L.fr, .int .u64 P.L.nx, .bool P.L.br, .slice (some ⟨gp, 0, none⟩) P.es.length d1, .int .i64 P.most][j]?) ∧ w'.cell? ⟨gp, 0, none⟩ = some (.int .u64 x.f0) ∧ Sp.Sep w w' [box gx [.int .u64 X.f0, .string X.f1, .bool X.f2] 41, box ga [.slice A1 P.L.l.length c1, .bool P.L.dn, .int .i64 P.L.fu, .int .i64 P.L.fa, .int .i64 P.L.size, .int .u64 P.L.fr, .int .u64 P.L.nx, .bool P.L.br, .slice (some ⟨gp, 0, none⟩) P.es.length d1, .int .i64 P.most] 33, row k67 67 (.slice A1 (P.L.l).length c1) P.L.l, row k41 41 (.slice (some ⟨gp, 0, none⟩) (P.es).length d1) P.es, box gt [.int .u8 k, .string sd, .int .u64 sq] 84, box gq [.slice A Q.L.l.length c, .bool Q.L.dn, .int .i64 Q.L.fu, .int .i64 Q.L.fa, .int .i64 Q.L.size, .int .u64 Q.L.fr, .int .u64 Q.L.nx, .bool Q.L.br, .slice B Q.es.length d, .int .i64 Q.most] 33]) (ds := []) #[false, false, false, false, false, false, false, false, false, false, false, false, false, false, false, false, false, false, false, false, false, false, false, false, false, false, false, false, false] (by kernel_rfl) rfl rfl ⟨(fun j => ((Sep.drew H.out)).cell (g := ga) mem1 j), (oI (gp := gp) (d := d1) (es := P.es) (i := 0) ((Sep.drew H.out)) mem3 hx).1, (Sep.drew H.out)⟩ (fun hHeld => ?_)
      clear c_x z_x c_a z_a c_t c_q H HRp HCp HRe HCe HCd HG HF HO HFA HSA HX HLN HPF HL2 HSM HCK
      refine tkS (i := 0) (N := some 32) (v := ?_) (a' := ?_) rfl rfl (by kernel_rfl) (fun _ _ _ h => h) (Or.inl ⟨by rfl, ?_⟩) hHeld ?_ ?_
      rotate_left
      ·rintro w' ⟨s0, s1, s2⟩
       go_simp
       with_reducible rfl
      rotate_left
      ·simp only [Act.put, zA, zZ, zS, aI, aJ]
       rfl
      refine onS (i := 1) (N := some 33) rfl rfl (by kernel_rfl) (by decide) (fun K hK => ?_)
      refine oC Tryz.func39 (by kernel_rfl) rfl #[.agg #[.slice A1 P.L.l.length c1, .bool P.L.dn, .int .i64 P.L.fu, .int .i64 P.L.fa, .int .i64 P.L.size, .int .u64 P.L.fr, .int .u64 P.L.nx, .bool P.L.br, .slice (some ⟨gp, 0, none⟩) P.es.length d1, .int .i64 P.most]] (by rfl) rfl rfl (by simp only [List.map_toArray, List.map_cons, List.map_nil]; rfl) ?_
      with_reducible refine (bP.calls (P.es.length + 3) A1 c1 P.L.l P.L.dn P.L.fu P.L.fa P.L.size P.L.fr P.L.nx P.L.br (some ⟨gp, 0, none⟩) d1 P.es P.most 6 _ (Sep.reads hHeld.2.2 mem2).2.2 (Sep.reads hHeld.2.2 mem2).2.1 (Sep.reads hHeld.2.2 mem3).2.2 (Sep.reads hHeld.2.2 mem3).2.1 HCP.out).mono ?_
      rintro e w5 ⟨rfl, hb5⟩
      refine ⟨_, rfl, ?_⟩
      refine hK.out _ _ ⟨(fun j => ((Sep.step hHeld.2.2 hb5)).cell (g := ga) mem1 j), (oI (gp := gp) (d := d1) (es := P.es) (i := 0) ((Sep.step hHeld.2.2 hb5)) mem3 hx).1, (Sep.step hHeld.2.2 hb5)⟩ (fun hHeld => ?_)
      clear hK K
      refine fE (a' := ?_) ?_ ?_
      rotate_left
      ·show Act.put _ (some 33) _ = _
       simp only [Act.put, zA, zZ, zS, aI, aJ]
       rfl
      refine puS (i := 2) (N := some 34) (v := ?_) (a' := ?_) rfl rfl (by kernel_rfl) (fun _ _ _ h => h) (Or.inl ⟨by rfl, ?_⟩) ?_ ?_
      rotate_left
      ·intro w'
       go_simp
       with_reducible rfl
      rotate_left
      ·simp only [Act.put, zA, zZ, zS, aI, aJ]
       rfl
      refine puS (i := 3) (N := some 35) (v := ?_) (a' := ?_) rfl rfl (by kernel_rfl) (fun _ _ _ h => h) (Or.inl ⟨by rfl, ?_⟩) ?_ ?_
      rotate_left
      ·intro w'
       go_simp
       with_reducible rfl
      rotate_left
      ·simp only [Act.put, zA, zZ, zS, aI, aJ]
       rfl
      refine puS (i := 4) (N := some 36) (v := ?_) (a' := ?_) rfl rfl (by kernel_rfl) (fun _ _ _ h => h) (Or.inl ⟨by rfl, ?_⟩) ?_ ?_
      rotate_left
      ·intro w'
       go_simp
       with_reducible rfl
      rotate_left
      ·simp only [Act.put, zA, zZ, zS, aI, aJ]
       rfl
      refine puS (i := 5) (N := some 37) (v := ?_) (a' := ?_) rfl rfl (by kernel_rfl) (fun _ _ _ h => h) (Or.inl ⟨by rfl, ?_⟩) ?_ ?_
      rotate_left
      ·intro w'
       go_simp
       with_reducible rfl
      rotate_left
      ·simp only [Act.put, zA, zZ, zS, aI, aJ]
       rfl
      refine puS (i := 7) (N := some 39) (v := ?_) (a' := ?_) rfl rfl (by kernel_rfl) (fun _ _ _ h => h) (Or.inl ⟨by rfl, ?_⟩) ?_ ?_
      rotate_left
      ·intro w'
       go_simp
       with_reducible rfl
      rotate_left
      ·simp only [Act.put, zA, zZ, zS, aI, aJ]
       rfl
      refine puS (i := 8) (N := some 40) (v := ?_) (a' := ?_) rfl rfl (by kernel_rfl) (fun _ _ _ h => h) (Or.inl ⟨by rfl, ?_⟩) ?_ ?_
      rotate_left
      ·intro w'
       go_simp
       with_reducible rfl
      rotate_left
      ·simp only [Act.put, zA, zZ, zS, aI, aJ]
       rfl
      refine tkS (i := 6) (N := some 38) (v := ?_) (a' := ?_) rfl rfl (by kernel_rfl) (fun _ _ _ h => h) (Or.inl ⟨by rfl, ?_⟩) hHeld ?_ ?_
      rotate_left
      ·rintro w' ⟨s0, s1, s2⟩
       go_simp
       with_reducible rfl
      rotate_left
      ·simp only [Act.put, zA, zZ, zS, aI, aJ]
       rfl
      refine tkS (i := 9) (N := some 41) (v := ?_) (a' := ?_) rfl rfl (by kernel_rfl) (fun _ _ _ h => h) (Or.inl ⟨by rfl, ?_⟩) hHeld ?_ ?_
      rotate_left
      ·rintro w' ⟨s0, s1, s2⟩
       go_simp
       with_reducible rfl
      rotate_left
      ·simp only [Act.put, zA, zZ, zS, aI, aJ]
       rfl
      refine puS (i := 10) (N := some 42) (v := ?_) (a' := ?_) rfl rfl (by kernel_rfl) (fun _ _ _ h => h) (Or.inl ⟨by rfl, ?_⟩) ?_ ?_
      rotate_left
      ·intro w'
       go_simp
       with_reducible rfl
      rotate_left
      ·simp only [Act.put, zA, zZ, zS, aI, aJ]
       rfl
      refine puS (i := 11) (N := some 43) (v := ?_) (a' := ?_) rfl rfl (by kernel_rfl) (fun _ _ _ h => h) (Or.inl ⟨by rfl, ?_⟩) ?_ ?_
      rotate_left
      ·intro w'
       go_simp
       with_reducible rfl
      rotate_left
      ·simp only [Act.put, zA, zZ, zS, aI, aJ]
       rfl
      refine puS (i := 12) (N := some 44) (v := ?_) (a' := ?_) rfl rfl (by kernel_rfl) (fun _ _ _ h => h) (Or.inl ⟨by rfl, ?_⟩) ?_ ?_
      rotate_left
      ·intro w'
       go_simp
       with_reducible rfl
      rotate_left
      ·simp only [Act.put, zA, zZ, zS, aI, aJ]
       rfl
      refine puS (i := 13) (N := some 45) (v := ?_) (a' := ?_) rfl rfl (by kernel_rfl) (fun _ _ _ h => h) (Or.inl ⟨by rfl, ?_⟩) ?_ ?_
      rotate_left
      ·intro w'
       go_simp
       with_reducible rfl
      rotate_left
      ·simp only [Act.put, zA, zZ, zS, aI, aJ]
       rfl
      refine tkS (i := 14) (N := some 46) (v := ?_) (a' := ?_) rfl rfl (by kernel_rfl) (fun _ _ _ h => h) (Or.inl ⟨by rfl, ?_⟩) hHeld ?_ ?_
      rotate_left
      ·rintro w' ⟨s0, s1, s2⟩
       go_simp
       with_reducible rfl
      rotate_left
      ·simp only [Act.put, zA, zZ, zS, aI, aJ]
       rfl
      refine puS (i := 15) (N := some 47) (v := ?_) (a' := ?_) rfl rfl (by kernel_rfl) (fun _ _ _ h => h) (Or.inl ⟨by rfl, ?_⟩) ?_ ?_
      rotate_left
      ·intro w'
       go_simp
       with_reducible rfl
      rotate_left
      ·simp only [Act.put, zA, zZ, zS, aI, aJ]
       rfl
      refine puS (i := 16) (N := some 48) (v := ?_) (a' := ?_) rfl rfl (by kernel_rfl) (fun _ _ _ h => h) (Or.inl ⟨by rfl, ?_⟩) ?_ ?_
      rotate_left
      ·intro w'
       go_simp
       with_reducible rfl
      rotate_left
      ·simp only [Act.put, zA, zZ, zS, aI, aJ]
       rfl
      refine puS (i := 17) (N := some 49) (v := ?_) (a' := ?_) rfl rfl (by kernel_rfl) (fun _ _ _ h => h) (Or.inl ⟨by rfl, ?_⟩) ?_ ?_
      rotate_left
      ·intro w'
       go_simp
       with_reducible rfl
      rotate_left
      ·simp only [Act.put, zA, zZ, zS, aI, aJ]
       rfl
      refine puS (i := 18) (N := some 50) (v := ?_) (a' := ?_) rfl rfl (by kernel_rfl) (fun _ _ _ h => h) (Or.inl ⟨by rfl, ?_⟩) ?_ ?_
      rotate_left
      ·intro w'
       go_simp
       with_reducible rfl
      rotate_left
      ·simp only [Act.put, zA, zZ, zS, aI, aJ]
       rfl
      refine puS (i := 19) (N := some 51) (v := ?_) (a' := ?_) rfl rfl (by kernel_rfl) (fun _ _ _ h => h) (Or.inl ⟨by rfl, ?_⟩) ?_ ?_
      rotate_left
      ·intro w'
       go_simp
       with_reducible rfl
      rotate_left
      ·simp only [Act.put, zA, zZ, zS, aI, aJ]
       rfl
      refine puS (i := 24) (N := some 56) (v := ?_) (a' := ?_) rfl rfl (by kernel_rfl) (fun _ _ _ h => h) (Or.inl ⟨by rfl, ?_⟩) ?_ ?_
      rotate_left
      ·intro w'
       go_simp
       with_reducible rfl
      rotate_left
      ·simp only [Act.put, zA, zZ, zS, aI, aJ]
       rfl
      refine puS (i := 25) (N := some 57) (v := ?_) (a' := ?_) rfl rfl (by kernel_rfl) (fun _ _ _ h => h) (Or.inl ⟨by rfl, ?_⟩) ?_ ?_
      rotate_left
      ·intro w'
       go_simp
       with_reducible rfl
      rotate_left
      ·simp only [Act.put, zA, zZ, zS, aI, aJ]
       rfl
      refine tkS (i := 20) (N := some 52) (v := ?_) (a' := ?_) rfl rfl (by kernel_rfl) (fun _ _ _ h => h) (Or.inl ⟨by rfl, ?_⟩) hHeld ?_ ?_
      rotate_left
      ·rintro w' ⟨s0, s1, s2⟩
       go_simp
       with_reducible rfl
      rotate_left
      ·simp only [Act.put, zA, zZ, zS, aI, aJ]
       rfl
      refine puS (i := 21) (N := some 53) (v := ?_) (a' := ?_) rfl rfl (by kernel_rfl) (fun _ _ _ h => h) (Or.inl ⟨by rfl, ?_⟩) ?_ ?_
      rotate_left
      ·intro w'
       go_simp
       with_reducible rfl
      rotate_left
      ·simp only [Act.put, zA, zZ, zS, aI, aJ]
       rfl
      refine puS (i := 22) (N := some 54) (v := ?_) (a' := ?_) rfl rfl (by kernel_rfl) (fun _ _ _ h => h) (Or.inl ⟨by rfl, ?_⟩) ?_ ?_
      rotate_left
      ·intro w'
       go_simp
       with_reducible rfl
      rotate_left
      ·simp only [Act.put, zA, zZ, zS, aI, aJ]
       rfl
      refine tkS (i := 23) (N := some 55) (v := ?_) (a' := ?_) rfl rfl (by kernel_rfl) (fun _ _ _ h => h) (Or.inl ⟨by rfl, ?_⟩) hHeld ?_ ?_
      rotate_left
      ·rintro w' ⟨s0, s1, s2⟩
       go_simp
       with_reducible rfl
      rotate_left
      ·simp only [Act.put, zA, zZ, zS, aI, aJ]
       rfl
      refine tkS (i := 26) (N := some 58) (v := ?_) (a' := ?_) rfl rfl (by kernel_rfl) (fun _ _ _ h => h) (Or.inl ⟨by rfl, ?_⟩) hHeld ?_ ?_
      rotate_left
      ·rintro w' ⟨s0, s1, s2⟩
       go_simp
       with_reducible rfl
      rotate_left
      ·simp only [Act.put, zA, zZ, zS, aI, aJ]
       rfl
      refine puS (i := 27) (N := some 59) (v := ?_) (a' := ?_) rfl rfl (by kernel_rfl) (fun _ _ _ h => h) (Or.inl ⟨by rfl, ?_⟩) ?_ ?_
      rotate_left
      ·intro w'
       go_simp
       with_reducible rfl
      rotate_left
      ·simp only [Act.put, zA, zZ, zS, aI, aJ]
       rfl
      refine puS (i := 28) (N := some 60) (v := ?_) (a' := ?_) rfl rfl (by kernel_rfl) (fun _ _ _ h => h) (Or.inl ⟨by rfl, ?_⟩) ?_ ?_
      rotate_left
      ·intro w'
       go_simp
       with_reducible rfl
      rotate_left
      ·simp only [Act.put, zA, zZ, zS, aI, aJ]
       rfl
      refine iT (by kernel_rfl) ?_
      go_wp2_with fail
      go_meet
      exact ⟨rfl, ⟨hHeld.2.2⟩⟩
     ·
      have h2b : decide ((P.es.length : Int) > 0) = false := decide_eq_false (by omega)
      refine fO (n := 29) (S := fun w' => (∀ j : Nat, w'.cell? ⟨ga, j, none⟩ = [.slice A1 P.L.l.length c1, .bool P.L.dn, .int .i64 P.L.fu, .int .i64 P.L.fa, .int .i64 P.L.size, .int .u64 P.L.fr, .int .u64 P.L.nx, .bool P.L.br, .slice B1 P.es.length d1, .int .i64 P.most][j]?) ∧ Sp.Sep w w' [box gx [.int .u64 X.f0, .string X.f1, .bool X.f2] 41, box ga [.slice A1 P.L.l.length c1, .bool P.L.dn, .int .i64 P.L.fu, .int .i64 P.L.fa, .int .i64 P.L.size, .int .u64 P.L.fr, .int .u64 P.L.nx, .bool P.L.br, .slice B1 P.es.length d1, .int .i64 P.most] 33, row k67 67 (.slice A1 (P.L.l).length c1) P.L.l, row k41 41 (.slice B1 (P.es).length d1) P.es, box gt [.int .u8 k, .string sd, .int .u64 sq] 84, box gq [.slice A Q.L.l.length c, .bool Q.L.dn, .int .i64 Q.L.fu, .int .i64 Q.L.fa, .int .i64 Q.L.size, .int .u64 Q.L.fr, .int .u64 Q.L.nx, .bool Q.L.br, .slice B Q.es.length d, .int .i64 Q.most] 33]) (ds := []) #[false, false, false, false, false, false, false, false, false, false, false, false, false, false, false, false, false, false, false, false, false, false, false, false, false, false, false, false, false] (by kernel_rfl) rfl rfl ⟨(fun j => ((Sep.drew H.out)).cell (g := ga) mem1 j), (Sep.drew H.out)⟩ (fun hHeld => ?_)
      clear c_x z_x c_a z_a c_t c_q H HRp HCp HRe HCe HCd HG HF HO HFA HSA HX HLN HPF HL2 HSM HCK
      refine tkS (i := 0) (N := some 32) (v := ?_) (a' := ?_) rfl rfl (by kernel_rfl) (fun _ _ _ h => h) (Or.inl ⟨by rfl, ?_⟩) hHeld ?_ ?_
      rotate_left
      ·rintro w' ⟨s0, s1⟩
       go_simp
       with_reducible rfl
      rotate_left
      ·simp only [Act.put, zA, zZ, zS, aI, aJ]
       rfl
      refine onS (i := 1) (N := some 33) rfl rfl (by kernel_rfl) (by decide) (fun K hK => ?_)
      refine oC Tryz.func39 (by kernel_rfl) rfl #[.agg #[.slice A1 P.L.l.length c1, .bool P.L.dn, .int .i64 P.L.fu, .int .i64 P.L.fa, .int .i64 P.L.size, .int .u64 P.L.fr, .int .u64 P.L.nx, .bool P.L.br, .slice B1 P.es.length d1, .int .i64 P.most]] (by rfl) rfl rfl (by simp only [List.map_toArray, List.map_cons, List.map_nil]; rfl) ?_
      with_reducible refine (bP.calls (P.es.length + 3) A1 c1 P.L.l P.L.dn P.L.fu P.L.fa P.L.size P.L.fr P.L.nx P.L.br B1 d1 P.es P.most 6 _ (Sep.reads hHeld.2 mem2).2.2 (Sep.reads hHeld.2 mem2).2.1 (Sep.reads hHeld.2 mem3).2.2 (Sep.reads hHeld.2 mem3).2.1 HCP.out).mono ?_
      rintro e w5 ⟨rfl, hb5⟩
      refine ⟨_, rfl, ?_⟩
      refine hK.out _ _ ⟨(fun j => ((Sep.step hHeld.2 hb5)).cell (g := ga) mem1 j), (Sep.step hHeld.2 hb5)⟩ (fun hHeld => ?_)
      clear hK K
      refine fE (a' := ?_) ?_ ?_
      rotate_left
      ·show Act.put _ (some 33) _ = _
       simp only [Act.put, zA, zZ, zS, aI, aJ]
       rfl
      refine puS (i := 2) (N := some 34) (v := ?_) (a' := ?_) rfl rfl (by kernel_rfl) (fun _ _ _ h => h) (Or.inl ⟨by rfl, ?_⟩) ?_ ?_
      rotate_left
      ·intro w'
       go_simp
       with_reducible rfl
      rotate_left
      ·simp only [Act.put, zA, zZ, zS, aI, aJ]
       rfl
      refine puS (i := 3) (N := some 35) (v := ?_) (a' := ?_) rfl rfl (by kernel_rfl) (fun _ _ _ h => h) (Or.inl ⟨by rfl, ?_⟩) ?_ ?_
      rotate_left
      ·intro w'
       go_simp
       with_reducible rfl
      rotate_left
      ·simp only [Act.put, zA, zZ, zS, aI, aJ]
       rfl
      refine puS (i := 4) (N := some 36) (v := ?_) (a' := ?_) rfl rfl (by kernel_rfl) (fun _ _ _ h => h) (Or.inl ⟨by rfl, ?_⟩) ?_ ?_
      rotate_left
      ·intro w'
       go_simp
       with_reducible rfl
      rotate_left
      ·simp only [Act.put, zA, zZ, zS, aI, aJ]
       rfl
      refine puS (i := 5) (N := some 37) (v := ?_) (a' := ?_) rfl rfl (by kernel_rfl) (fun _ _ _ h => h) (Or.inl ⟨by rfl, ?_⟩) ?_ ?_
      rotate_left
      ·intro w'
       go_simp
       with_reducible rfl
      rotate_left
      ·simp only [Act.put, zA, zZ, zS, aI, aJ]
       rfl
      refine puS (i := 7) (N := some 39) (v := ?_) (a' := ?_) rfl rfl (by kernel_rfl) (fun _ _ _ h => h) (Or.inl ⟨by rfl, ?_⟩) ?_ ?_
      rotate_left
      ·intro w'
       go_simp
       with_reducible rfl
      rotate_left
      ·simp only [Act.put, zA, zZ, zS, aI, aJ]
       rfl
      refine puS (i := 8) (N := some 40) (v := ?_) (a' := ?_) rfl rfl (by kernel_rfl) (fun _ _ _ h => h) (Or.inl ⟨by rfl, ?_⟩) ?_ ?_
      rotate_left
      ·intro w'
       go_simp
       with_reducible rfl
      rotate_left
      ·simp only [Act.put, zA, zZ, zS, aI, aJ]
       rfl
      refine tkS (i := 6) (N := some 38) (v := ?_) (a' := ?_) rfl rfl (by kernel_rfl) (fun _ _ _ h => h) (Or.inl ⟨by rfl, ?_⟩) hHeld ?_ ?_
      rotate_left
      ·rintro w' ⟨s0, s1⟩
       go_simp
       with_reducible rfl
      rotate_left
      ·simp only [Act.put, zA, zZ, zS, aI, aJ]
       rfl
      refine tkS (i := 9) (N := some 41) (v := ?_) (a' := ?_) rfl rfl (by kernel_rfl) (fun _ _ _ h => h) (Or.inl ⟨by rfl, ?_⟩) hHeld ?_ ?_
      rotate_left
      ·rintro w' ⟨s0, s1⟩
       go_simp
       with_reducible rfl
      rotate_left
      ·simp only [Act.put, zA, zZ, zS, aI, aJ]
       rfl
      refine puS (i := 10) (N := some 42) (v := ?_) (a' := ?_) rfl rfl (by kernel_rfl) (fun _ _ _ h => h) (Or.inl ⟨by rfl, ?_⟩) ?_ ?_
      rotate_left
      ·intro w'
       go_simp
       with_reducible rfl
      rotate_left
      ·simp only [Act.put, zA, zZ, zS, aI, aJ]
       rfl
      refine puS (i := 11) (N := some 43) (v := ?_) (a' := ?_) rfl rfl (by kernel_rfl) (fun _ _ _ h => h) (Or.inl ⟨by rfl, ?_⟩) ?_ ?_
      rotate_left
      ·intro w'
       go_simp
       with_reducible rfl
      rotate_left
      ·simp only [Act.put, zA, zZ, zS, aI, aJ]
       rfl
      refine puS (i := 12) (N := some 44) (v := ?_) (a' := ?_) rfl rfl (by kernel_rfl) (fun _ _ _ h => h) (Or.inl ⟨by rfl, ?_⟩) ?_ ?_
      rotate_left
      ·intro w'
       go_simp
       with_reducible rfl
      rotate_left
      ·simp only [Act.put, zA, zZ, zS, aI, aJ]
       rfl
      refine puS (i := 13) (N := some 45) (v := ?_) (a' := ?_) rfl rfl (by kernel_rfl) (fun _ _ _ h => h) (Or.inl ⟨by rfl, ?_⟩) ?_ ?_
      rotate_left
      ·intro w'
       go_simp
       with_reducible rfl
      rotate_left
      ·simp only [Act.put, zA, zZ, zS, aI, aJ]
       rfl
      refine tkS (i := 14) (N := some 46) (v := ?_) (a' := ?_) rfl rfl (by kernel_rfl) (fun _ _ _ h => h) (Or.inl ⟨by rfl, ?_⟩) hHeld ?_ ?_
      rotate_left
      ·rintro w' ⟨s0, s1⟩
       go_simp
       with_reducible rfl
      rotate_left
      ·simp only [Act.put, zA, zZ, zS, aI, aJ]
       rfl
      refine puS (i := 15) (N := some 47) (v := ?_) (a' := ?_) rfl rfl (by kernel_rfl) (fun _ _ _ h => h) (Or.inl ⟨by rfl, ?_⟩) ?_ ?_
      rotate_left
      ·intro w'
       go_simp
       with_reducible rfl
      rotate_left
      ·simp only [Act.put, zA, zZ, zS, aI, aJ]
       rfl
      refine puS (i := 16) (N := some 48) (v := ?_) (a' := ?_) rfl rfl (by kernel_rfl) (fun _ _ _ h => h) (Or.inl ⟨by rfl, ?_⟩) ?_ ?_
      rotate_left
      ·intro w'
       go_simp
       with_reducible rfl
      rotate_left
      ·simp only [Act.put, zA, zZ, zS, aI, aJ]
       rfl
      refine puS (i := 17) (N := some 49) (v := ?_) (a' := ?_) rfl rfl (by kernel_rfl) (fun _ _ _ h => h) (Or.inl ⟨by rfl, ?_⟩) ?_ ?_
      rotate_left
      ·intro w'
       go_simp
       with_reducible rfl
      rotate_left
      ·simp only [Act.put, zA, zZ, zS, aI, aJ]
       rfl
      refine puS (i := 18) (N := some 50) (v := ?_) (a' := ?_) rfl rfl (by kernel_rfl) (fun _ _ _ h => h) (Or.inl ⟨by rfl, ?_⟩) ?_ ?_
      rotate_left
      ·intro w'
       go_simp
       with_reducible rfl
      rotate_left
      ·simp only [Act.put, zA, zZ, zS, aI, aJ]
       rfl
      refine puS (i := 19) (N := some 51) (v := undef) (a' := ?_) rfl rfl (by kernel_rfl) (fun _ _ _ h => h) (Or.inr ⟨by rfl, rfl⟩) ?_ ?_
      rotate_left
      ·simp only [Act.put, zA, zZ, zS, aI, aJ]
       rfl
      refine puS (i := 20) (N := some 52) (v := undef) (a' := ?_) rfl rfl (by kernel_rfl) (fun _ _ _ h => h) (Or.inr ⟨by rfl, rfl⟩) ?_ ?_
      rotate_left
      ·simp only [Act.put, zA, zZ, zS, aI, aJ]
       rfl
      refine puS (i := 21) (N := some 53) (v := undef) (a' := ?_) rfl rfl (by kernel_rfl) (fun _ _ _ h => h) (Or.inr ⟨by rfl, rfl⟩) ?_ ?_
      rotate_left
      ·simp only [Act.put, zA, zZ, zS, aI, aJ]
       rfl
      refine puS (i := 22) (N := some 54) (v := undef) (a' := ?_) rfl rfl (by kernel_rfl) (fun _ _ _ h => h) (Or.inr ⟨by rfl, rfl⟩) ?_ ?_
      rotate_left
      ·simp only [Act.put, zA, zZ, zS, aI, aJ]
       rfl
      refine puS (i := 23) (N := some 55) (v := undef) (a' := ?_) rfl rfl (by kernel_rfl) (fun _ _ _ h => h) (Or.inr ⟨by rfl, rfl⟩) ?_ ?_
      rotate_left
      ·simp only [Act.put, zA, zZ, zS, aI, aJ]
       rfl
      refine puS (i := 24) (N := some 56) (v := undef) (a' := ?_) rfl rfl (by kernel_rfl) (fun _ _ _ h => h) (Or.inr ⟨by rfl, rfl⟩) ?_ ?_
      rotate_left
      ·simp only [Act.put, zA, zZ, zS, aI, aJ]
       rfl
      refine puS (i := 25) (N := some 57) (v := undef) (a' := ?_) rfl rfl (by kernel_rfl) (fun _ _ _ h => h) (Or.inr ⟨by rfl, rfl⟩) ?_ ?_
      rotate_left
      ·simp only [Act.put, zA, zZ, zS, aI, aJ]
       rfl
      refine puS (i := 26) (N := some 58) (v := undef) (a' := ?_) rfl rfl (by kernel_rfl) (fun _ _ _ h => h) (Or.inr ⟨by rfl, rfl⟩) ?_ ?_
      rotate_left
      ·simp only [Act.put, zA, zZ, zS, aI, aJ]
       rfl
      refine puS (i := 27) (N := some 59) (v := undef) (a' := ?_) rfl rfl (by kernel_rfl) (fun _ _ _ h => h) (Or.inr ⟨by rfl, rfl⟩) ?_ ?_
      rotate_left
      ·simp only [Act.put, zA, zZ, zS, aI, aJ]
       rfl
      refine puS (i := 28) (N := some 60) (v := ?_) (a' := ?_) rfl rfl (by kernel_rfl) (fun _ _ _ h => h) (Or.inl ⟨by rfl, ?_⟩) ?_ ?_
      rotate_left
      ·intro w'
       go_simp
       with_reducible rfl
      rotate_left
      ·simp only [Act.put, zA, zZ, zS, aI, aJ]
       rfl
      refine iT (by kernel_rfl) ?_
      go_wp2_with fail
      go_meet
      exact ⟨rfl, ⟨hHeld.2⟩⟩
    ·
     have h1b : decide (P.L.fr ≤ P.L.nx) = false := decide_eq_false h1
     refine fO (n := 29) (S := fun w' => (∀ j : Nat, w'.cell? ⟨ga, j, none⟩ = [.slice A1 P.L.l.length c1, .bool P.L.dn, .int .i64 P.L.fu, .int .i64 P.L.fa, .int .i64 P.L.size, .int .u64 P.L.fr, .int .u64 P.L.nx, .bool P.L.br, .slice B1 P.es.length d1, .int .i64 P.most][j]?) ∧ Sp.Sep w w' [box gx [.int .u64 X.f0, .string X.f1, .bool X.f2] 41, box ga [.slice A1 P.L.l.length c1, .bool P.L.dn, .int .i64 P.L.fu, .int .i64 P.L.fa, .int .i64 P.L.size, .int .u64 P.L.fr, .int .u64 P.L.nx, .bool P.L.br, .slice B1 P.es.length d1, .int .i64 P.most] 33, row k67 67 (.slice A1 (P.L.l).length c1) P.L.l, row k41 41 (.slice B1 (P.es).length d1) P.es, box gt [.int .u8 k, .string sd, .int .u64 sq] 84, box gq [.slice A Q.L.l.length c, .bool Q.L.dn, .int .i64 Q.L.fu, .int .i64 Q.L.fa, .int .i64 Q.L.size, .int .u64 Q.L.fr, .int .u64 Q.L.nx, .bool Q.L.br, .slice B Q.es.length d, .int .i64 Q.most] 33]) (ds := []) #[false, false, false, false, false, false, false, false, false, false, false, false, false, false, false, false, false, false, false, false, false, false, false, false, false, false, false, false, false] (by kernel_rfl) rfl rfl ⟨(fun j => ((Sep.drew H.out)).cell (g := ga) mem1 j), (Sep.drew H.out)⟩ (fun hHeld => ?_)
     clear c_x z_x c_a z_a c_t c_q H HRp HCp HRe HCe HCd HG HF HO HFA HSA HX HLN HPF HL2 HSM HCK
     refine tkS (i := 0) (N := some 32) (v := ?_) (a' := ?_) rfl rfl (by kernel_rfl) (fun _ _ _ h => h) (Or.inl ⟨by rfl, ?_⟩) hHeld ?_ ?_
     rotate_left
     ·rintro w' ⟨s0, s1⟩
      go_simp
      with_reducible rfl
     rotate_left
     ·simp only [Act.put, zA, zZ, zS, aI, aJ]
      rfl
     refine onS (i := 1) (N := some 33) rfl rfl (by kernel_rfl) (by decide) (fun K hK => ?_)
     refine oC Tryz.func39 (by kernel_rfl) rfl #[.agg #[.slice A1 P.L.l.length c1, .bool P.L.dn, .int .i64 P.L.fu, .int .i64 P.L.fa, .int .i64 P.L.size, .int .u64 P.L.fr, .int .u64 P.L.nx, .bool P.L.br, .slice B1 P.es.length d1, .int .i64 P.most]] (by rfl) rfl rfl (by simp only [List.map_toArray, List.map_cons, List.map_nil]; rfl) ?_
     with_reducible refine (bP.calls (P.es.length + 3) A1 c1 P.L.l P.L.dn P.L.fu P.L.fa P.L.size P.L.fr P.L.nx P.L.br B1 d1 P.es P.most 6 _ (Sep.reads hHeld.2 mem2).2.2 (Sep.reads hHeld.2 mem2).2.1 (Sep.reads hHeld.2 mem3).2.2 (Sep.reads hHeld.2 mem3).2.1 HCP.out).mono ?_
     rintro e w5 ⟨rfl, hb5⟩
     refine ⟨_, rfl, ?_⟩
     refine hK.out _ _ ⟨(fun j => ((Sep.step hHeld.2 hb5)).cell (g := ga) mem1 j), (Sep.step hHeld.2 hb5)⟩ (fun hHeld => ?_)
     clear hK K
     refine fE (a' := ?_) ?_ ?_
     rotate_left
     ·show Act.put _ (some 33) _ = _
      simp only [Act.put, zA, zZ, zS, aI, aJ]
      rfl
     refine puS (i := 2) (N := some 34) (v := ?_) (a' := ?_) rfl rfl (by kernel_rfl) (fun _ _ _ h => h) (Or.inl ⟨by rfl, ?_⟩) ?_ ?_
     rotate_left
     ·intro w'
      go_simp
      with_reducible rfl
     rotate_left
     ·simp only [Act.put, zA, zZ, zS, aI, aJ]
      rfl
     refine puS (i := 3) (N := some 35) (v := ?_) (a' := ?_) rfl rfl (by kernel_rfl) (fun _ _ _ h => h) (Or.inl ⟨by rfl, ?_⟩) ?_ ?_
     rotate_left
     ·intro w'
      go_simp
      with_reducible rfl
     rotate_left
     ·simp only [Act.put, zA, zZ, zS, aI, aJ]
      rfl
     refine puS (i := 4) (N := some 36) (v := ?_) (a' := ?_) rfl rfl (by kernel_rfl) (fun _ _ _ h => h) (Or.inl ⟨by rfl, ?_⟩) ?_ ?_
     rotate_left
     ·intro w'
      go_simp
      with_reducible rfl
     rotate_left
     ·simp only [Act.put, zA, zZ, zS, aI, aJ]
      rfl
     refine puS (i := 5) (N := some 37) (v := ?_) (a' := ?_) rfl rfl (by kernel_rfl) (fun _ _ _ h => h) (Or.inl ⟨by rfl, ?_⟩) ?_ ?_
     rotate_left
     ·intro w'
      go_simp
      with_reducible rfl
     rotate_left
     ·simp only [Act.put, zA, zZ, zS, aI, aJ]
      rfl
     refine puS (i := 7) (N := some 39) (v := ?_) (a' := ?_) rfl rfl (by kernel_rfl) (fun _ _ _ h => h) (Or.inl ⟨by rfl, ?_⟩) ?_ ?_
     rotate_left
     ·intro w'
      go_simp
      with_reducible rfl
     rotate_left
     ·simp only [Act.put, zA, zZ, zS, aI, aJ]
      rfl
     refine puS (i := 8) (N := some 40) (v := ?_) (a' := ?_) rfl rfl (by kernel_rfl) (fun _ _ _ h => h) (Or.inl ⟨by rfl, ?_⟩) ?_ ?_
     rotate_left
     ·intro w'
      go_simp
      with_reducible rfl
     rotate_left
     ·simp only [Act.put, zA, zZ, zS, aI, aJ]
      rfl
     refine tkS (i := 6) (N := some 38) (v := ?_) (a' := ?_) rfl rfl (by kernel_rfl) (fun _ _ _ h => h) (Or.inl ⟨by rfl, ?_⟩) hHeld ?_ ?_
     rotate_left
     ·rintro w' ⟨s0, s1⟩
      go_simp
      with_reducible rfl
     rotate_left
     ·simp only [Act.put, zA, zZ, zS, aI, aJ]
      rfl
     refine tkS (i := 9) (N := some 41) (v := ?_) (a' := ?_) rfl rfl (by kernel_rfl) (fun _ _ _ h => h) (Or.inl ⟨by rfl, ?_⟩) hHeld ?_ ?_
     rotate_left
     ·rintro w' ⟨s0, s1⟩
      go_simp
      with_reducible rfl
     rotate_left
     ·simp only [Act.put, zA, zZ, zS, aI, aJ]
      rfl
     refine puS (i := 10) (N := some 42) (v := ?_) (a' := ?_) rfl rfl (by kernel_rfl) (fun _ _ _ h => h) (Or.inl ⟨by rfl, ?_⟩) ?_ ?_
     rotate_left
     ·intro w'
      go_simp
      with_reducible rfl
     rotate_left
     ·simp only [Act.put, zA, zZ, zS, aI, aJ]
      rfl
     refine puS (i := 11) (N := some 43) (v := ?_) (a' := ?_) rfl rfl (by kernel_rfl) (fun _ _ _ h => h) (Or.inl ⟨by rfl, ?_⟩) ?_ ?_
     rotate_left
     ·intro w'
      go_simp
      with_reducible rfl
     rotate_left
     ·simp only [Act.put, zA, zZ, zS, aI, aJ]
      rfl
     refine puS (i := 12) (N := some 44) (v := ?_) (a' := ?_) rfl rfl (by kernel_rfl) (fun _ _ _ h => h) (Or.inl ⟨by rfl, ?_⟩) ?_ ?_
     rotate_left
     ·intro w'
      go_simp
      with_reducible rfl
     rotate_left
     ·simp only [Act.put, zA, zZ, zS, aI, aJ]
      rfl
     refine puS (i := 13) (N := some 45) (v := undef) (a' := ?_) rfl rfl (by kernel_rfl) (fun _ _ _ h => h) (Or.inr ⟨by rfl, rfl⟩) ?_ ?_
     rotate_left
     ·simp only [Act.put, zA, zZ, zS, aI, aJ]
      rfl
     refine puS (i := 14) (N := some 46) (v := undef) (a' := ?_) rfl rfl (by kernel_rfl) (fun _ _ _ h => h) (Or.inr ⟨by rfl, rfl⟩) ?_ ?_
     rotate_left
     ·simp only [Act.put, zA, zZ, zS, aI, aJ]
      rfl
     refine puS (i := 15) (N := some 47) (v := undef) (a' := ?_) rfl rfl (by kernel_rfl) (fun _ _ _ h => h) (Or.inr ⟨by rfl, rfl⟩) ?_ ?_
     rotate_left
     ·simp only [Act.put, zA, zZ, zS, aI, aJ]
      rfl
     refine puS (i := 16) (N := some 48) (v := undef) (a' := ?_) rfl rfl (by kernel_rfl) (fun _ _ _ h => h) (Or.inr ⟨by rfl, rfl⟩) ?_ ?_
     rotate_left
     ·simp only [Act.put, zA, zZ, zS, aI, aJ]
      rfl
     refine puS (i := 17) (N := some 49) (v := ?_) (a' := ?_) rfl rfl (by kernel_rfl) (fun _ _ _ h => h) (Or.inl ⟨by rfl, ?_⟩) ?_ ?_
     rotate_left
     ·intro w'
      go_simp
      with_reducible rfl
     rotate_left
     ·simp only [Act.put, zA, zZ, zS, aI, aJ]
      rfl
     refine puS (i := 18) (N := some 50) (v := ?_) (a' := ?_) rfl rfl (by kernel_rfl) (fun _ _ _ h => h) (Or.inl ⟨by rfl, ?_⟩) ?_ ?_
     rotate_left
     ·intro w'
      go_simp
      with_reducible rfl
     rotate_left
     ·simp only [Act.put, zA, zZ, zS, aI, aJ]
      rfl
     refine puS (i := 19) (N := some 51) (v := undef) (a' := ?_) rfl rfl (by kernel_rfl) (fun _ _ _ h => h) (Or.inr ⟨by rfl, rfl⟩) ?_ ?_
     rotate_left
     ·simp only [Act.put, zA, zZ, zS, aI, aJ]
      rfl
     refine puS (i := 20) (N := some 52) (v := undef) (a' := ?_) rfl rfl (by kernel_rfl) (fun _ _ _ h => h) (Or.inr ⟨by rfl, rfl⟩) ?_ ?_
     rotate_left
     ·simp only [Act.put, zA, zZ, zS, aI, aJ]
      rfl
     refine puS (i := 21) (N := some 53) (v := undef) (a' := ?_) rfl rfl (by kernel_rfl) (fun _ _ _ h => h) (Or.inr ⟨by rfl, rfl⟩) ?_ ?_
     rotate_left
     ·simp only [Act.put, zA, zZ, zS, aI, aJ]
      rfl
     refine puS (i := 22) (N := some 54) (v := undef) (a' := ?_) rfl rfl (by kernel_rfl) (fun _ _ _ h => h) (Or.inr ⟨by rfl, rfl⟩) ?_ ?_
     rotate_left
     ·simp only [Act.put, zA, zZ, zS, aI, aJ]
      rfl
     refine puS (i := 23) (N := some 55) (v := undef) (a' := ?_) rfl rfl (by kernel_rfl) (fun _ _ _ h => h) (Or.inr ⟨by rfl, rfl⟩) ?_ ?_
     rotate_left
     ·simp only [Act.put, zA, zZ, zS, aI, aJ]
      rfl
     refine puS (i := 24) (N := some 56) (v := undef) (a' := ?_) rfl rfl (by kernel_rfl) (fun _ _ _ h => h) (Or.inr ⟨by rfl, rfl⟩) ?_ ?_
     rotate_left
     ·simp only [Act.put, zA, zZ, zS, aI, aJ]
      rfl
     refine puS (i := 25) (N := some 57) (v := undef) (a' := ?_) rfl rfl (by kernel_rfl) (fun _ _ _ h => h) (Or.inr ⟨by rfl, rfl⟩) ?_ ?_
     rotate_left
     ·simp only [Act.put, zA, zZ, zS, aI, aJ]
      rfl
     refine puS (i := 26) (N := some 58) (v := undef) (a' := ?_) rfl rfl (by kernel_rfl) (fun _ _ _ h => h) (Or.inr ⟨by rfl, rfl⟩) ?_ ?_
     rotate_left
     ·simp only [Act.put, zA, zZ, zS, aI, aJ]
      rfl
     refine puS (i := 27) (N := some 59) (v := undef) (a' := ?_) rfl rfl (by kernel_rfl) (fun _ _ _ h => h) (Or.inr ⟨by rfl, rfl⟩) ?_ ?_
     rotate_left
     ·simp only [Act.put, zA, zZ, zS, aI, aJ]
      rfl
     refine puS (i := 28) (N := some 60) (v := ?_) (a' := ?_) rfl rfl (by kernel_rfl) (fun _ _ _ h => h) (Or.inl ⟨by rfl, ?_⟩) ?_ ?_
     rotate_left
     ·intro w'
      go_simp
      with_reducible rfl
     rotate_left
     ·simp only [Act.put, zA, zZ, zS, aI, aJ]
      rfl
     refine iT (by kernel_rfl) ?_
     go_wp2_with fail
     go_meet
     exact ⟨rfl, ⟨hHeld.2⟩⟩
  case rest =>
   obtain ⟨rfl, n_⟩ := hcut
   clear H c_x z_x c_a z_a c_t c_q
   have H := n_
   clear n_
   have c_x := H.out.cell (g := gx) aP
   have c_a := H.out.cell (g := ga) mem1
   have c_t := H.out.cell (g := gt) bT
   have c_q := H.out.cell (g := gq) dM
   have hmx : decide ((P.es.length : Int) ≤ max (Q.es.length : Int) Q.most) = true := decide_eq_true (by have := HLN.out; omega)
   have qiN : (P.es.length : Int) ≤ max (Q.es.length : Int) Q.most := by have := HLN.out; omega
   by_cases he : e = 0
   ·
    subst he
    have hln := HLN.out
    go_wp2_with fail
    all_goals first | (go_ret; exact ⟨by first | rfl | simp, H.out.below⟩) | (exfalso; omega)
   ·
    have he1 : (e == 0) = false := by simpa using he
    have he2 : (e != 0) = true := by simpa using he
    have hXz := HX.out he
    subst hXz
    simp only [z41] at *
    cases hbr : P.L.br
    ·
     have hPQ : P = Q := by
      rcases HSA.out he with h5 | h5
      ·rw [hbr] at h5
       cases h5
      ·exact h5
     subst hPQ
     try rw [hbr] at c_a
     have hln := HLN.out
     go_wp2_with fail
     have SM := KD A1 c1 B1 d1 A c B d P _ (H.out.reads mem2).2.2 (H.out.reads mem2).2.1 (H.out.reads mem3).2.2 (H.out.reads mem3).2.1 (H.out.came HRp.out) HCp.out (H.out.came HRe.out) HCe.out HSM.out.1 HSM.out.2
     simp only [qc, lgc, List.cons_append, List.nil_append, hbr] at SM
     refine ((SM).mono ?_)
     rintro e ED ⟨rfl, hb_⟩
     have n_ : aC (Sep w ED [box gx [.int .u64 0, .string ⟨#[]⟩, .bool false] 41, box ga [.slice A1 P.L.l.length c1, .bool P.L.dn, .int .i64 P.L.fu, .int .i64 P.L.fa, .int .i64 P.L.size, .int .u64 P.L.fr, .int .u64 P.L.nx, .bool P.L.br, .slice B1 P.es.length d1, .int .i64 P.most] 33, row k67 67 (.slice A1 (P.L.l).length c1) P.L.l, row k41 41 (.slice B1 (P.es).length d1) P.es, box gt [.int .u8 k, .string sd, .int .u64 sq] 84, box gq [.slice A P.L.l.length c, .bool P.L.dn, .int .i64 P.L.fu, .int .i64 P.L.fa, .int .i64 P.L.size, .int .u64 P.L.fr, .int .u64 P.L.nx, .bool P.L.br, .slice B P.es.length d, .int .i64 P.most] 33]) := ⟨H.out.step hb_⟩
     clear H c_x c_a c_t c_q
     have H := n_
     clear n_
     have c_x := H.out.cell (g := gx) aP
     have c_a := H.out.cell (g := ga) mem1
     have c_t := H.out.cell (g := gt) bT
     have c_q := H.out.cell (g := gq) dM
     clear hb_
     clear SM
     go_wp2_with fail
     all_goals first | (go_ret; exact ⟨by first | rfl | simp, H.out.below⟩) | (exfalso; omega)
    ·
     try rw [hbr] at c_a
     have hln := HLN.out
     go_wp2_with fail
     all_goals first | (go_ret; exact ⟨by first | rfl | simp, H.out.below⟩) | (exfalso; omega)
 ·
  have hO := HO.out
  rw [qai k sd sq hok] at hO
  obtain ⟨hPz, hO2⟩ := Prod.mk.inj hO
  obtain ⟨rfl, rfl⟩ := Prod.mk.inj hO2
  have HPZ := aC.mk hPz
  have HCK : aC (bP.f (Q.es.length + 3) Q.L.l Q.L.dn Q.L.fu Q.L.fa Q.L.size Q.L.fr Q.L.nx Q.L.br Q.es Q.most = some 6) := ⟨by rw [yH Q HF.out HCd.out, if_neg hok]⟩
  clear hO hO2 HO hok hPz
  simp only [z41]
  go_wp2_with (first
 |((with_reducible refine aU (N := 5) rfl ?_);
   refine bK rfl H (cs := [.slice none 0 0, .bool false, .int .i64 0, .int .i64 0, .int .i64 0, .int .u64 0, .int .u64 0, .bool false, .slice none 0 0, .int .i64 0]) (t := 33) ?hr ?_;
   (case hr => first | (go_simp; done) | (go_simp; rfl));
   intro ga NJ n_;
   simp only [Act.put, zA, zZ, zS];
   clear H c_t c_q;
   have H := n_;
   clear n_;
   have c_a := H.out.cell (g := ga) aP;
   have z_a := H.out.frozen (g := ga) aP;
   have c_t := H.out.cell (g := gt) mem3;
   have c_q := H.out.cell (g := gq) bT)
 |((with_reducible refine aU (N := 6) rfl ?_);
   refine bK rfl H (cs := [.int .u64 0, .string ⟨#[]⟩, .bool false]) (t := 41) ?hr ?_;
   (case hr => first | (go_simp; done) | (go_simp; rfl));
   intro gx JQ n_;
   simp only [Act.put, zA, zZ, zS];
   clear H c_a z_a c_t c_q;
   have H := n_;
   clear n_;
   have c_x := H.out.cell (g := gx) aP;
   have z_x := H.out.frozen (g := gx) aP;
   have c_a := H.out.cell (g := ga) mem1;
   have z_a := H.out.frozen (g := ga) mem1;
   have c_t := H.out.cell (g := gt) bT;
   have c_q := H.out.cell (g := gq) dM)
 |((with_reducible refine aV (t := 33) (p := 5) rfl ?_);
   refine bH (rs1 := [box gx [.int .u64 0, .string ⟨#[]⟩, .bool false] 41, box ga [.slice A1 P.L.l.length c1, .bool P.L.dn, .int .i64 P.L.fu, .int .i64 P.L.fa, .int .i64 P.L.size, .int .u64 P.L.fr, .int .u64 P.L.nx, .bool P.L.br, .slice B1 P.es.length d1, .int .i64 P.most] 33, row k67 67 (.slice A1 (P.L.l).length c1) P.L.l, row k41 41 (.slice B1 (P.es).length d1) P.es, box gt [.int .u8 k, .string sd, .int .u64 sq] 84, box gq [.slice A Q.L.l.length c, .bool Q.L.dn, .int .i64 Q.L.fu, .int .i64 Q.L.fa, .int .i64 Q.L.size, .int .u64 Q.L.fr, .int .u64 Q.L.nx, .bool Q.L.br, .slice B Q.es.length d, .int .i64 Q.most] 33]) rfl (t := 33) (p := 5) rfl rfl ?hr (H1 := (Sep.set1 (Sep.set1 (Sep.set1 (Sep.set1 (Sep.set1 (Sep.set1 (Sep.set1 (Sep.set1 (Sep.set1 (Sep.set1 H.out 0 (.slice A1 P.L.l.length c1) rfl) 1 (.bool P.L.dn) rfl) 2 (.int .i64 P.L.fu) rfl) 3 (.int .i64 P.L.fa) rfl) 4 (.int .i64 P.L.size) rfl) 5 (.int .u64 P.L.fr) rfl) 6 (.int .u64 P.L.nx) rfl) 7 (.bool P.L.br) rfl) 8 (.slice B1 P.es.length d1) rfl) 9 (.int .i64 P.most) rfl)) ?_;
   (case hr => first | (go_simp; done) | (go_simp; rfl));
   intro JR n_;
   clear H c_x z_x c_a z_a c_t c_q;
   have H := n_;
   clear n_;
   have c_x := H.out.cell (g := gx) aP;
   have z_x := H.out.frozen (g := gx) aP;
   have c_a := H.out.cell (g := ga) mem1;
   have z_a := H.out.frozen (g := ga) mem1;
   have c_t := H.out.cell (g := gt) bT;
   have c_q := H.out.cell (g := gq) dM)
 |((with_reducible refine aV (t := 41) (p := 6) rfl ?_);
   refine bH (rs1 := [box gx [.int .u64 0, .string ⟨#[]⟩, .bool false] 41, box ga [.slice A1 P.L.l.length c1, .bool P.L.dn, .int .i64 P.L.fu, .int .i64 P.L.fa, .int .i64 P.L.size, .int .u64 P.L.fr, .int .u64 P.L.nx, .bool P.L.br, .slice B1 P.es.length d1, .int .i64 P.most] 33, row k67 67 (.slice A1 (P.L.l).length c1) P.L.l, row k41 41 (.slice B1 (P.es).length d1) P.es, box gt [.int .u8 k, .string sd, .int .u64 sq] 84, box gq [.slice A Q.L.l.length c, .bool Q.L.dn, .int .i64 Q.L.fu, .int .i64 Q.L.fa, .int .i64 Q.L.size, .int .u64 Q.L.fr, .int .u64 Q.L.nx, .bool Q.L.br, .slice B Q.es.length d, .int .i64 Q.most] 33]) rfl (t := 41) (p := 6) rfl rfl ?hr (H1 := (Sep.set0 (Sep.set0 (Sep.set0 H.out 0 (.int .u64 0) rfl) 1 (.string ⟨#[]⟩) rfl) 2 (.bool false) rfl)) ?_;
   (case hr => first | (go_simp; done) | (go_simp; rfl));
   intro TQ n_;
   clear H c_x z_x c_a z_a c_t c_q;
   have H := n_;
   clear n_;
   have c_x := H.out.cell (g := gx) aP;
   have z_x := H.out.frozen (g := gx) aP;
   have c_a := H.out.cell (g := ga) mem1;
   have z_a := H.out.frozen (g := ga) mem1;
   have c_t := H.out.cell (g := gt) bT;
   have c_q := H.out.cell (g := gq) dM)
 |fail)
  refine ((bP.calls (Q.es.length + 3) A c Q.L.l Q.L.dn Q.L.fu Q.L.fa Q.L.size Q.L.fr Q.L.nx Q.L.br B d Q.es Q.most 6 _ (H.out.came HRp.out) HCp.out (H.out.came HRe.out) HCe.out HCK.out).mono ?_)
  rintro e KR ⟨rfl, hb_⟩
  have n_ : aC (Sep w KR [box gx [.int .u64 0, .string ⟨#[]⟩, .bool false] 41, box ga [.slice A1 P.L.l.length c1, .bool P.L.dn, .int .i64 P.L.fu, .int .i64 P.L.fa, .int .i64 P.L.size, .int .u64 P.L.fr, .int .u64 P.L.nx, .bool P.L.br, .slice B1 P.es.length d1, .int .i64 P.most] 33, row k67 67 (.slice A1 (P.L.l).length c1) P.L.l, row k41 41 (.slice B1 (P.es).length d1) P.es, box gt [.int .u8 k, .string sd, .int .u64 sq] 84, box gq [.slice A Q.L.l.length c, .bool Q.L.dn, .int .i64 Q.L.fu, .int .i64 Q.L.fa, .int .i64 Q.L.size, .int .u64 Q.L.fr, .int .u64 Q.L.nx, .bool Q.L.br, .slice B Q.es.length d, .int .i64 Q.most] 33]) := ⟨H.out.step hb_⟩
  clear H c_x z_x c_a z_a c_t c_q
  have H := n_
  clear n_
  have c_x := H.out.cell (g := gx) aP
  have z_x := H.out.frozen (g := gx) aP
  have c_a := H.out.cell (g := ga) mem1
  have z_a := H.out.frozen (g := ga) mem1
  have c_t := H.out.cell (g := gt) bT
  have c_q := H.out.cell (g := gq) dM
  clear hb_
  go_wp2_with fail
  have hPz := HPZ.out
  subst hPz
  refine ((KD A1 c1 B1 d1 none 0 none 0 Qz _ (H.out.reads mem2).2.2 (H.out.reads mem2).2.1 (H.out.reads mem3).2.2 (H.out.reads mem3).2.1 (qbJ _) (Nat.le_refl _) (qbK _) (Nat.le_refl _) (by decide) (by decide)).mono ?_)
  rintro e ZL ⟨rfl, hb_⟩
  have n_ : aC (Sep w ZL [box gx [.int .u64 0, .string ⟨#[]⟩, .bool false] 41, box ga [.slice A1 Qz.L.l.length c1, .bool Qz.L.dn, .int .i64 Qz.L.fu, .int .i64 Qz.L.fa, .int .i64 Qz.L.size, .int .u64 Qz.L.fr, .int .u64 Qz.L.nx, .bool Qz.L.br, .slice B1 Qz.es.length d1, .int .i64 Qz.most] 33, row k67 67 (.slice A1 (Qz.L.l).length c1) Qz.L.l, row k41 41 (.slice B1 (Qz.es).length d1) Qz.es, box gt [.int .u8 k, .string sd, .int .u64 sq] 84, box gq [.slice A Q.L.l.length c, .bool Q.L.dn, .int .i64 Q.L.fu, .int .i64 Q.L.fa, .int .i64 Q.L.size, .int .u64 Q.L.fr, .int .u64 Q.L.nx, .bool Q.L.br, .slice B Q.es.length d, .int .i64 Q.most] 33]) := ⟨H.out.step hb_⟩
  clear H c_x z_x c_a z_a c_t c_q
  have H := n_
  clear n_
  have c_x := H.out.cell (g := gx) aP
  have z_x := H.out.frozen (g := gx) aP
  have c_a := H.out.cell (g := ga) mem1
  have z_a := H.out.frozen (g := ga) mem1
  have c_t := H.out.cell (g := gt) bT
  have c_q := H.out.cell (g := gq) dM
  clear hb_
  go_wp2_with fail
  go_ret
  exact ⟨by first | rfl | simp, H.out.below⟩
end Go.Proofs.U
