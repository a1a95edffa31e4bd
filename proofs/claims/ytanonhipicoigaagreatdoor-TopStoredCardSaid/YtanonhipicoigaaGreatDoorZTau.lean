import Derived.Test.YtanonhipicoigaaGreatDoorZTap
import Derived.Test.YtanonhipicoigaaGreatDoorZTat
import Derived.Test.YtanonhipicoigaaGreatDoorZTas
import Derived.Test.YtanonhipicoigaaGreatDoorZTag
set_option linter.unusedVariables false
set_option linter.unusedSimpArgs false
set_option maxRecDepth 100000
namespace Go.Proofs.U
open Go.RowKit Go.Proofs.aA.aK Go.Proofs.aA.aW Go.Proofs.aA.aZ Go.Proofs.Sp Go.Proofs.dZ
theorem qaY (ad : Addr) : ad.add 0 = ad := by cases ad; rfl
def vw : Option Addr → Nat → Option Addr
 | none, _ => none
 | some a, j => some (a.add j)
theorem qdB (A : Option Addr) : vw A 0 = A := by
 cases A
 ·rfl
 ·rw [vw, qaY]
set_option maxHeartbeats 16000000 in
theorem WY (size qaZ : Int) (Ad : Option Addr) (cd : Nat) (data : List ByteArray) (Ak : Option Addr) (ck : Nat) (ks : List Int) (w : World) (hr : Kd.C Kd.string w Ad data.length data) (hrk : Kd.C (Kd.int .i64) w Ak ks.length ks) (hck : ks.length ≤ ck) (hG : Gl w) :
  Calls Tryz.prog 3 #[.int .i64 size, .slice Ad data.length cd, .int .i64 qaZ, .slice Ak ks.length ck] w fun e w' => e = .returned (.bool true) ∧ Below w.heap.size w w' := by
 have HRp := aC.mk hr
 have HRk := aC.mk hrk
 have HCk := aC.mk hck
 have HG := aC.mk hG
 clear hr hrk hck hG
 have H := aC.mk (Sep.start w)
 go_enter Tryz.func3, Tryz.ntmps3
 go_wp2_with fail
 refine ((o9.calls 3 true _ (by kernel_rfl)).mono ?_)
 rintro e wd1 ⟨rfl, hb_⟩
 have n_ : aC (Sep w wd1 []) := ⟨H.out.step hb_⟩
 clear H
 have H := n_
 clear n_
 clear hb_
 go_wp2_with fail
 refine ((qG.calls [] false (-1) (-1) _ rfl).mono ?_)
 rintro e wd2 ⟨v_, rfl, ho_, hb_⟩
 obtain ⟨Af, cf, eo_⟩ := Kd.dW ho_
 subst eo_
 have n_ : aC (Sep w wd2 [row k67 67 (.slice Af (([] : List S67)).length cf) (([] : List S67))]) := ⟨Sep.jR H.out hb_ ho_ oN⟩
 clear H
 have H := n_
 clear n_
 clear ho_ hb_
 have HOP := aC.mk (fun A c w hr hc hG => NR A c [] false (-1) (-1) size 1024 w hr hc hG)
 by_cases hm : size < 1 ∨ 262144 < size
 ·
  rw [show l7 [] false (-1) (-1) size 1024 = (Qz, 2) from WR hm] at HOP
  dsimp only at HOP
  clear hm
  go_wp2_with fail
  refine ((HOP.out _ _ _ (H.out.reads aQ).2.2 (H.out.reads aQ).2.1 (HG.out.below H.out.below)).mono ?_)
  rintro e wd3 ⟨A1, c1, B1, d1, rfl, HJ⟩
  have n_ : aC (Sep w wd3 [row k67 67 (.slice A1 (Qz.L.l).length c1) Qz.L.l, row k41 41 (.slice B1 (Qz.es).length d1) Qz.es, row k67 67 (.slice Af (([] : List S67)).length cf) (([] : List S67))]) := ⟨gX H.out HJ.out⟩
  clear H
  have H := n_
  clear n_
  clear HJ
  simp only [qc, lgc, List.cons_append, List.nil_append]
  go_wp2_with (first
 |((with_reducible refine aV (N := 9) rfl ?_);
   refine bP rfl H (cs := [.slice none 0 0, .bool false, .int .i64 0, .int .i64 0, .int .i64 0, .int .u64 0, .int .u64 0, .bool false, .slice none 0 0, .int .i64 0]) (t := 33) ?hr ?_;
   (case hr => first | (go_simp; done) | (go_simp; rfl));
   intro gq wd4 n_;
   simp only [Act.put, zA, zZ, zS];
   clear H;
   have H := n_;
   clear n_;
   have c_q := H.out.cell (g := gq) aQ;
   have z_q := H.out.frozen (g := gq) aQ)
 |((with_reducible refine aX (t := 33) (p := 9) rfl ?_);
   refine bM (rs1 := [box gq [.slice A1 Qz.L.l.length c1, .bool Qz.L.dn, .int .i64 Qz.L.fu, .int .i64 Qz.L.fa, .int .i64 Qz.L.size, .int .u64 Qz.L.fr, .int .u64 Qz.L.nx, .bool Qz.L.br, .slice B1 Qz.es.length d1, .int .i64 Qz.most] 33, row k67 67 (.slice A1 (Qz.L.l).length c1) Qz.L.l, row k41 41 (.slice B1 (Qz.es).length d1) Qz.es, row k67 67 (.slice Af (([] : List S67)).length cf) (([] : List S67))]) rfl (t := 33) (p := 9) rfl rfl ?hr (H1 := (Sep.set0 (Sep.set0 (Sep.set0 (Sep.set0 (Sep.set0 (Sep.set0 (Sep.set0 (Sep.set0 (Sep.set0 (Sep.set0 H.out 0 (.slice A1 Qz.L.l.length c1) rfl) 1 (.bool Qz.L.dn) rfl) 2 (.int .i64 Qz.L.fu) rfl) 3 (.int .i64 Qz.L.fa) rfl) 4 (.int .i64 Qz.L.size) rfl) 5 (.int .u64 Qz.L.fr) rfl) 6 (.int .u64 Qz.L.nx) rfl) 7 (.bool Qz.L.br) rfl) 8 (.slice B1 Qz.es.length d1) rfl) 9 (.int .i64 Qz.most) rfl)) ?_;
   (case hr => first | (go_simp; done) | (go_simp; rfl));
   intro wd5 n_;
   clear H c_q z_q;
   have H := n_;
   clear n_;
   have c_q := H.out.cell (g := gq) aQ;
   have z_q := H.out.frozen (g := gq) aQ)
 |fail)
  go_wp2_with fail
  go_ret
  exact ⟨by first | rfl | simp, H.out.below⟩
 ·
  rw [qaR (by omega) (by omega) (by decide) (by decide)] at HOP
  obtain ⟨Q0, hQ0⟩ : ∃ Q0 : Qu, Q0 = ⟨L0s size, [], 1024⟩ := ⟨_, rfl⟩
  have HF0 : aC (vV size Q0 [] 1) := ⟨by rw [hQ0]; exact qeM (by omega) (by omega)⟩
  rw [← hQ0] at HOP
  dsimp only at HOP
  clear hm hQ0
  go_wp2_with fail
  refine ((HOP.out _ _ _ (H.out.reads aQ).2.2 (H.out.reads aQ).2.1 (HG.out.below H.out.below)).mono ?_)
  rintro e wd6 ⟨A0, c0, B0, d0, rfl, HJ⟩
  have n_ : aC (Sep w wd6 [row k67 67 (.slice A0 (Q0.L.l).length c0) Q0.L.l, row k41 41 (.slice B0 (Q0.es).length d0) Q0.es, row k67 67 (.slice Af (([] : List S67)).length cf) (([] : List S67))]) := ⟨gX H.out HJ.out⟩
  clear H
  have H := n_
  clear n_
  clear HJ
  simp only [qc, lgc, List.cons_append, List.nil_append]
  have n_ : aC (Sep w wd6 [row k67 67 (.slice A0 (Q0.L.l).length c0) Q0.L.l, row k41 41 (.slice B0 (Q0.es).length d0) Q0.es]) := ⟨Sep.drop2 H.out⟩
  clear H
  have H := n_
  clear n_
  clear HOP
  go_wp2_with (first
 |((with_reducible refine aV (N := 9) rfl ?_);
   refine bP rfl H (cs := [.slice none 0 0, .bool false, .int .i64 0, .int .i64 0, .int .i64 0, .int .u64 0, .int .u64 0, .bool false, .slice none 0 0, .int .i64 0]) (t := 33) ?hr ?_;
   (case hr => first | (go_simp; done) | (go_simp; rfl));
   intro gq wd7 n_;
   simp only [Act.put, zA, zZ, zS];
   clear H;
   have H := n_;
   clear n_;
   have c_q := H.out.cell (g := gq) aQ;
   have z_q := H.out.frozen (g := gq) aQ)
 |((with_reducible refine aX (t := 33) (p := 9) rfl ?_);
   refine bM (rs1 := [box gq [.slice A0 Q0.L.l.length c0, .bool Q0.L.dn, .int .i64 Q0.L.fu, .int .i64 Q0.L.fa, .int .i64 Q0.L.size, .int .u64 Q0.L.fr, .int .u64 Q0.L.nx, .bool Q0.L.br, .slice B0 Q0.es.length d0, .int .i64 Q0.most] 33, row k67 67 (.slice A0 (Q0.L.l).length c0) Q0.L.l, row k41 41 (.slice B0 (Q0.es).length d0) Q0.es]) rfl (t := 33) (p := 9) rfl rfl ?hr (H1 := (Sep.set0 (Sep.set0 (Sep.set0 (Sep.set0 (Sep.set0 (Sep.set0 (Sep.set0 (Sep.set0 (Sep.set0 (Sep.set0 H.out 0 (.slice A0 Q0.L.l.length c0) rfl) 1 (.bool Q0.L.dn) rfl) 2 (.int .i64 Q0.L.fu) rfl) 3 (.int .i64 Q0.L.fa) rfl) 4 (.int .i64 Q0.L.size) rfl) 5 (.int .u64 Q0.L.fr) rfl) 6 (.int .u64 Q0.L.nx) rfl) 7 (.bool Q0.L.br) rfl) 8 (.slice B0 Q0.es.length d0) rfl) 9 (.int .i64 Q0.most) rfl)) ?_;
   (case hr => first | (go_simp; done) | (go_simp; rfl));
   intro wd8 n_;
   clear H c_q z_q;
   have H := n_;
   clear n_;
   have c_q := H.out.cell (g := gq) aQ;
   have z_q := H.out.frozen (g := gq) aQ)
 |fail)
  go_loopw [11, 12, 13, 14, 15] (fun v11 v12 v13 v14 v15 wr => ∃ (i : Nat) (Q : Qu) (want : List ByteArray) (A : Option Addr) (c : Nat) (B : Option Addr) (d : Nat) (Ao : Option Addr) (co : Nat), v12 = .int .i64 (i : Int) ∧ v11 = .slice Ao want.length co ∧ i ≤ 12 ∧ want.length ≤ i ∧ aC (vV size Q want (want.length + 1)) ∧ aC (Sep w wr [box gq [.slice A Q.L.l.length c, .bool Q.L.dn, .int .i64 Q.L.fu, .int .i64 Q.L.fa, .int .i64 Q.L.size, .int .u64 Q.L.fr, .int .u64 Q.L.nx, .bool Q.L.br, .slice B Q.es.length d, .int .i64 Q.most] 33, row k67 67 (.slice A (Q.L.l).length c) Q.L.l, row k41 41 (.slice B (Q.es).length d) Q.es, row Kd.string 9 (.slice Ao (want).length co) want])) (fun _ v12 _ _ _ _ => 12 - (intOf v12).toNat)
  case atStart => exact ⟨0, Q0, [], A0, c0, B0, d0, none, 0, rfl, rfl, by decide, Nat.le_refl _, HF0, ⟨(Sep.jQ (Sep.jQ (Sep.jQ (Sep.eX (d := Kd.string) (e := 9) H.out))))⟩⟩
  case round =>
   clear H c_q z_q
   obtain ⟨i, Q, want, A, c, B, d, Ao, co, rfl, rfl, qjg, hwi, HF, H⟩ := hrel
   have c_q := H.out.cell (g := gq) aQ
   have z_q := H.out.frozen (g := gq) aQ
   have HOK := aC.mk HF.out.okr
   go_upto_region 8 with fail
   go_cut [48] (fun v48 wx => v48 = .bool (decide ((i : Int) < (data.length : Int) ∧ (i : Int) < 12)) ∧ aC (Sep w wx [box gq [.slice A Q.L.l.length c, .bool Q.L.dn, .int .i64 Q.L.fu, .int .i64 Q.L.fa, .int .i64 Q.L.size, .int .u64 Q.L.fr, .int .u64 Q.L.nx, .bool Q.L.br, .slice B Q.es.length d, .int .i64 Q.most] 33, row k67 67 (.slice A (Q.L.l).length c) Q.L.l, row k41 41 (.slice B (Q.es).length d) Q.es, row Kd.string 9 (.slice Ao (want).length co) want]))
   case first =>
    by_cases h1 : (i : Int) < (data.length : Int)
    ·by_cases h2 : (i : Int) < 12
     ·go_wp2_with fail
      go_meet
      exact ⟨by simp [h1, h2] <;> omega, H⟩
     ·go_wp2_with fail
      go_meet
      exact ⟨by simp [h1, h2] <;> omega, H⟩
    ·go_wp2_with fail
     go_meet
     exact ⟨by simp [h1] <;> omega, H⟩
   case rest =>
    obtain ⟨rfl, n_⟩ := hcut
    clear H c_q z_q
    have H := n_
    clear n_
    have c_q := H.out.cell (g := gq) aQ
    have z_q := H.out.frozen (g := gq) aQ
    by_cases hcc : (i : Int) < (data.length : Int) ∧ (i : Int) < 12
    ·
     have hcb : decide ((i : Int) < (data.length : Int) ∧ (i : Int) < 12) = true := decide_eq_true hcc
     rw [hcb]
     obtain ⟨hi2, hi3⟩ := hcc
     obtain ⟨ad, e1, hk⟩ := Kd.yU HRp.out (i : Int) (by omega) (by omega)
     subst e1
     simp only [Int.toNat_natCast] at hk
     obtain ⟨s, hs⟩ : ∃ s, s = UN ByteArray.empty data (i : Int) := ⟨_, rfl⟩
     rw [← hs] at hk
     clear hs hcb
     have HK : aC (∀ {W' : World} {rs : List Res}, Sep w W' rs → W'.cell? (ad.add i) = some (.string s)) := ⟨fun h => (h.below.cell (World.block_lt_of_cell? w _ hk)).trans hk⟩
     clear hk
     have hi0 : (0 : Int) ≤ (i : Int) := by omega
     have hw3 : wrap64 ((i : Int) + 1) = ((i + 1 : Nat) : Int) := by
      unfold wrap64
      omega
     obtain ⟨Q2, e, sq, h1, h2, h3, h4⟩ := HF.out.put s (by omega)
     have HPT := aC.mk (fun w hr hc hre hce hG => put_any A c B d Q s w hr hc hre hce hG HOK.out.1 HOK.out.2.1 HOK.out.2.2)
     rw [h1, h2] at HPT
     simp only [qc, lgc, List.cons_append, List.nil_append] at HPT
     clear h1 h2 h3
     go_upto_region 10 with fail
     refine iI (n := 14) (S := fun w' => (∀ j : Nat, w'.cell? ⟨gq, j, none⟩ = [.slice A Q.L.l.length c, .bool Q.L.dn, .int .i64 Q.L.fu, .int .i64 Q.L.fa, .int .i64 Q.L.size, .int .u64 Q.L.fr, .int .u64 Q.L.nx, .bool Q.L.br, .slice B Q.es.length d, .int .i64 Q.most][j]?) ∧ w'.cell? (ad.add i) = some (.string s) ∧ Sp.Sep w w' [box gq [.slice A Q.L.l.length c, .bool Q.L.dn, .int .i64 Q.L.fu, .int .i64 Q.L.fa, .int .i64 Q.L.size, .int .u64 Q.L.fr, .int .u64 Q.L.nx, .bool Q.L.br, .slice B Q.es.length d, .int .i64 Q.most] 33, row k67 67 (.slice A (Q.L.l).length c) Q.L.l, row k41 41 (.slice B (Q.es).length d) Q.es, row Kd.string 9 (.slice Ao (want).length co) want]) (ds := [11]) #[false, false, false, false, false, false, false, false, false, false, false, false, false, false] (by kernel_rfl) rfl rfl ⟨(fun j => ((Sep.drew H.out)).cell (g := gq) aQ j), (HK.out ((Sep.drew H.out))), (Sep.drew H.out)⟩ (fun hHeld => ?_)
     refine puS (i := 1) (N := some 53) (v := ?_) (a' := ?_) rfl rfl (by kernel_rfl) (fun _ _ _ h => h) (Or.inl ⟨by rfl, ?_⟩) ?_ ?_
     rotate_left
     ·intro w'
      go_simp
      with_reducible rfl
     rotate_left
     ·simp only [Act.put, zA, zZ, zS, aI, aJ]
      rfl
     refine puS (i := 2) (N := some 54) (v := ?_) (a' := ?_) rfl rfl (by kernel_rfl) (fun _ _ _ h => h) (Or.inl ⟨by rfl, ?_⟩) ?_ ?_
     rotate_left
     ·intro w'
      go_simp
      with_reducible rfl
     rotate_left
     ·simp only [Act.put, zA, zZ, zS, aI, aJ]
      rfl
     refine puS (i := 3) (N := some 55) (v := ?_) (a' := ?_) rfl rfl (by kernel_rfl) (fun _ _ _ h => h) (Or.inl ⟨by rfl, ?_⟩) ?_ ?_
     rotate_left
     ·intro w'
      go_simp
      with_reducible rfl
     rotate_left
     ·simp only [Act.put, zA, zZ, zS, aI, aJ]
      rfl
     refine tkS (i := 0) (N := some 52) (v := ?_) (a' := ?_) rfl rfl (by kernel_rfl) (fun _ _ _ h => h) (Or.inl ⟨by rfl, ?_⟩) hHeld ?_ ?_
     rotate_left
     ·rintro w' ⟨s0, s1, s2⟩
      go_simp
      with_reducible rfl
     rotate_left
     ·simp only [Act.put, zA, zZ, zS, aI, aJ]
      rfl
     refine tkS (i := 4) (N := some 56) (v := ?_) (a' := ?_) rfl rfl (by kernel_rfl) (fun _ _ _ h => h) (Or.inl ⟨by rfl, ?_⟩) hHeld ?_ ?_
     rotate_left
     ·rintro w' ⟨s0, s1, s2⟩
      go_simp
      with_reducible rfl
     rotate_left
     ·simp only [Act.put, zA, zZ, zS, aI, aJ]
      rfl
     refine qdF (σ := Nat × Option Addr × Nat × Option Addr × Nat) 3 #[true, true, true, true, true, true, true, true, true, true, true, false, false, false] (fun z_ => [(57, .tuple #[.agg #[.slice z_.2.1 Q2.L.l.length z_.2.2.1, .bool Q2.L.dn, .int .i64 Q2.L.fu, .int .i64 Q2.L.fa, .int .i64 Q2.L.size, .int .u64 Q2.L.fr, .int .u64 Q2.L.nx, .bool Q2.L.br, .slice z_.2.2.2.1 Q2.es.length z_.2.2.2.2, .int .i64 Q2.most], .int .u64 sq, .int .i64 e]), (51, .tuple #[.agg #[.slice z_.2.1 Q2.L.l.length z_.2.2.1, .bool Q2.L.dn, .int .i64 Q2.L.fu, .int .i64 Q2.L.fa, .int .i64 Q2.L.size, .int .u64 Q2.L.fr, .int .u64 Q2.L.nx, .bool Q2.L.br, .slice z_.2.2.2.1 Q2.es.length z_.2.2.2.2, .int .i64 Q2.most], .int .u64 sq, .int .i64 e]), (58, .agg #[.slice z_.2.1 Q2.L.l.length z_.2.2.1, .bool Q2.L.dn, .int .i64 Q2.L.fu, .int .i64 Q2.L.fa, .int .i64 Q2.L.size, .int .u64 Q2.L.fr, .int .u64 Q2.L.nx, .bool Q2.L.br, .slice z_.2.2.2.1 Q2.es.length z_.2.2.2.2, .int .i64 Q2.most]), (59, .int .u64 sq), (60, .int .i64 e), (13, .pointer (some ⟨z_.1, 0, none⟩))]) (fun z_ w' => (∀ j : Nat, w'.cell? ⟨gq, j, none⟩ = [.slice A Q.L.l.length c, .bool Q.L.dn, .int .i64 Q.L.fu, .int .i64 Q.L.fa, .int .i64 Q.L.size, .int .u64 Q.L.fr, .int .u64 Q.L.nx, .bool Q.L.br, .slice B Q.es.length d, .int .i64 Q.most][j]?) ∧ w'.cell? (ad.add i) = some (.string s) ∧ Sp.Sep w w' (box z_.1 [.slice none 0 0, .bool false, .int .i64 0, .int .i64 0, .int .i64 0, .int .u64 0, .int .u64 0, .bool false, .slice none 0 0, .int .i64 0] 33 :: row k67 67 (.slice z_.2.1 (Q2.L.l).length z_.2.2.1) Q2.L.l :: row k41 41 (.slice z_.2.2.2.1 (Q2.es).length z_.2.2.2.2) Q2.es :: [box gq [.slice A Q.L.l.length c, .bool Q.L.dn, .int .i64 Q.L.fu, .int .i64 Q.L.fa, .int .i64 Q.L.size, .int .u64 Q.L.fr, .int .u64 Q.L.nx, .bool Q.L.br, .slice B Q.es.length d, .int .i64 Q.most] 33, row k67 67 (.slice A (Q.L.l).length c) Q.L.l, row k41 41 (.slice B (Q.es).length d) Q.es, row Kd.string 9 (.slice Ao (want).length co) want])) ?_ ?_
     rotate_left
     ·intro TS
      refine qeS (i := 5) (j := 10) (Ni := some 57) (Nj := some 13) #[true, true, true, true, true, true, false, false, false, false, false, false, false, false] #[true, true, true, true, true, false, false, false, false, false, true, false, false, false] rfl rfl rfl rfl (by kernel_rfl) (by decide) (by decide) (fun K hK => ?_) (fun K hK => ?_)
      ·skip
       refine pV Tryz.func20 (by kernel_rfl) rfl #[.agg #[.slice A Q.L.l.length c, .bool Q.L.dn, .int .i64 Q.L.fu, .int .i64 Q.L.fa, .int .i64 Q.L.size, .int .u64 Q.L.fr, .int .u64 Q.L.nx, .bool Q.L.br, .slice B Q.es.length d, .int .i64 Q.most], .string s] (by rfl) rfl rfl (by simp only [List.map_toArray, List.map_cons, List.map_nil]; rfl) ?_
       with_reducible refine (HPT.out _ (Sep.reads hHeld.2.2 mem1).2.2 (Sep.reads hHeld.2.2 mem1).2.1 (Sep.reads hHeld.2.2 mem2).2.2 (Sep.reads hHeld.2.2 mem2).2.1 (HG.out.below (Sep.below hHeld.2.2))).mono ?_
       rintro e w70 ⟨A2, c2, B2, d2, rfl, HJ⟩
       have hS5 := gX hHeld.2.2 HJ.out
       refine ⟨_, rfl, ?_⟩
       refine hK.out _ _ ⟨(fun j => (hS5).cell (g := gq) mem2 j), (HK.out (hS5)), (hS5).dJ.dJ⟩ (fun hHeld => ?_)
       clear hK K
       refine fH (a' := ?_) ?_ ?_
       rotate_left
       ·show Act.put _ (some 57) _ = _
        simp only [Act.put, zA, zZ, zS, aI, aJ]
        rfl
       refine puS (i := 6) (N := some 51) (v := ?_) (a' := ?_) rfl rfl (by kernel_rfl) (fun _ _ _ h => h) (Or.inl ⟨by rfl, ?_⟩) ?_ ?_
       rotate_left
       ·intro w'
        go_simp
        with_reducible rfl
       rotate_left
       ·simp only [Act.put, zA, zZ, zS, aI, aJ]
        rfl
       refine puS (i := 7) (N := some 58) (v := ?_) (a' := ?_) rfl rfl (by kernel_rfl) (fun _ _ _ h => h) (Or.inl ⟨by rfl, ?_⟩) ?_ ?_
       rotate_left
       ·intro w'
        go_simp
        with_reducible rfl
       rotate_left
       ·simp only [Act.put, zA, zZ, zS, aI, aJ]
        rfl
       refine puS (i := 8) (N := some 59) (v := ?_) (a' := ?_) rfl rfl (by kernel_rfl) (fun _ _ _ h => h) (Or.inl ⟨by rfl, ?_⟩) ?_ ?_
       rotate_left
       ·intro w'
        go_simp
        with_reducible rfl
       rotate_left
       ·simp only [Act.put, zA, zZ, zS, aI, aJ]
        rfl
       refine puS (i := 9) (N := some 60) (v := ?_) (a' := ?_) rfl rfl (by kernel_rfl) (fun _ _ _ h => h) (Or.inl ⟨by rfl, ?_⟩) ?_ ?_
       rotate_left
       ·intro w'
        go_simp
        with_reducible rfl
       rotate_left
       ·simp only [Act.put, zA, zZ, zS, aI, aJ]
        rfl
       refine onS (i := 10) (N := some 13) rfl rfl (by kernel_rfl) (by decide) (fun K hK => ?_)
       refine xK (N := some 13) (by rfl) rfl hS5 [.slice none 0 0, .bool false, .int .i64 0, .int .i64 0, .int .i64 0, .int .u64 0, .int .u64 0, .bool false, .slice none 0 0, .int .i64 0] 33 ?_ ?_
       ·first | (go_simp; done) | (go_simp; rfl)
       intro g10 qjh qH
       refine hK.out _ _ ⟨(fun j => (qH).cell (g := gq) mem3 j), (HK.out (qH)), (qH).dJ.dJ.dJ⟩ (fun hHeld => ?_)
       clear hK K
       refine fH (a' := ?_) ?_ ?_
       rotate_left
       ·show Act.put _ (some 13) _ = _
        simp only [Act.put, zA, zZ, zS, aI, aJ]
        rfl
       exact fH (by simp only [wB, Act.put, zA, zZ, zS]) (TS ⟨g10, A2, c2, B2, d2⟩ _ ⟨(fun j => ((qH).dJ.dJ.dJ).cell (g := gq) aQ j), (HK.out ((qH).dJ.dJ.dJ)), qH⟩)
      ·skip
       refine xK (N := some 13) (by rfl) rfl hHeld.2.2 [.slice none 0 0, .bool false, .int .i64 0, .int .i64 0, .int .i64 0, .int .u64 0, .int .u64 0, .bool false, .slice none 0 0, .int .i64 0] 33 ?_ ?_
       ·first | (go_simp; done) | (go_simp; rfl)
       intro g10 qim qH
       refine hK.out _ _ ⟨(fun j => (qH).cell (g := gq) mem1 j), (HK.out (qH)), (qH).dJ⟩ (fun hHeld => ?_)
       clear hK K
       refine fH (a' := ?_) ?_ ?_
       rotate_left
       ·show Act.put _ (some 13) _ = _
        simp only [Act.put, zA, zZ, zS, aI, aJ]
        rfl
       refine onS (i := 5) (N := some 57) rfl rfl (by kernel_rfl) (by decide) (fun K hK => ?_)
       refine pV Tryz.func20 (by kernel_rfl) rfl #[.agg #[.slice A Q.L.l.length c, .bool Q.L.dn, .int .i64 Q.L.fu, .int .i64 Q.L.fa, .int .i64 Q.L.size, .int .u64 Q.L.fr, .int .u64 Q.L.nx, .bool Q.L.br, .slice B Q.es.length d, .int .i64 Q.most], .string s] (by rfl) rfl rfl (by simp only [List.map_toArray, List.map_cons, List.map_nil]; rfl) ?_
       with_reducible refine (HPT.out _ (Sep.reads qH mem2).2.2 (Sep.reads qH mem2).2.1 (Sep.reads qH mem3).2.2 (Sep.reads qH mem3).2.1 (HG.out.below (Sep.below qH))).mono ?_
       rintro e w71 ⟨A2, c2, B2, d2, rfl, HJ⟩
       have hS5 := gX qH HJ.out
       refine ⟨_, rfl, ?_⟩
       refine hK.out _ _ ⟨(fun j => (hS5).cell (g := gq) mem3 j), (HK.out (hS5)), (hS5).dJ.dJ.dJ⟩ (fun hHeld => ?_)
       clear hK K
       refine fH (a' := ?_) ?_ ?_
       rotate_left
       ·show Act.put _ (some 57) _ = _
        simp only [Act.put, zA, zZ, zS, aI, aJ]
        rfl
       refine puS (i := 6) (N := some 51) (v := ?_) (a' := ?_) rfl rfl (by kernel_rfl) (fun _ _ _ h => h) (Or.inl ⟨by rfl, ?_⟩) ?_ ?_
       rotate_left
       ·intro w'
        go_simp
        with_reducible rfl
       rotate_left
       ·simp only [Act.put, zA, zZ, zS, aI, aJ]
        rfl
       refine puS (i := 7) (N := some 58) (v := ?_) (a' := ?_) rfl rfl (by kernel_rfl) (fun _ _ _ h => h) (Or.inl ⟨by rfl, ?_⟩) ?_ ?_
       rotate_left
       ·intro w'
        go_simp
        with_reducible rfl
       rotate_left
       ·simp only [Act.put, zA, zZ, zS, aI, aJ]
        rfl
       refine puS (i := 8) (N := some 59) (v := ?_) (a' := ?_) rfl rfl (by kernel_rfl) (fun _ _ _ h => h) (Or.inl ⟨by rfl, ?_⟩) ?_ ?_
       rotate_left
       ·intro w'
        go_simp
        with_reducible rfl
       rotate_left
       ·simp only [Act.put, zA, zZ, zS, aI, aJ]
        rfl
       refine puS (i := 9) (N := some 60) (v := ?_) (a' := ?_) rfl rfl (by kernel_rfl) (fun _ _ _ h => h) (Or.inl ⟨by rfl, ?_⟩) ?_ ?_
       rotate_left
       ·intro w'
        go_simp
        with_reducible rfl
       rotate_left
       ·simp only [Act.put, zA, zZ, zS, aI, aJ]
        rfl
       exact fH (by simp only [wB, Act.put, zA, zZ, zS]) (TS ⟨g10, A2, c2, B2, d2⟩ _ ⟨(fun j => ((hS5.gY).dJ.dJ.dJ).cell (g := gq) aQ j), (HK.out ((hS5.gY).dJ.dJ.dJ)), hS5.gY⟩)
     rintro ⟨g10, A2, c2, B2, d2⟩ w18 ⟨qeJ, qiB, F5⟩
     dsimp only at F5 ⊢
     have hHeld : (∀ j : Nat, w18.cell? ⟨gq, j, none⟩ = [.slice A Q.L.l.length c, .bool Q.L.dn, .int .i64 Q.L.fu, .int .i64 Q.L.fa, .int .i64 Q.L.size, .int .u64 Q.L.fr, .int .u64 Q.L.nx, .bool Q.L.br, .slice B Q.es.length d, .int .i64 Q.most][j]?) ∧ w18.cell? (ad.add i) = some (.string s) ∧ Sp.Sep w w18 [box gq [.slice A Q.L.l.length c, .bool Q.L.dn, .int .i64 Q.L.fu, .int .i64 Q.L.fa, .int .i64 Q.L.size, .int .u64 Q.L.fr, .int .u64 Q.L.nx, .bool Q.L.br, .slice B Q.es.length d, .int .i64 Q.most] 33, row k67 67 (.slice A (Q.L.l).length c) Q.L.l, row k41 41 (.slice B (Q.es).length d) Q.es, row Kd.string 9 (.slice Ao (want).length co) want] := ⟨qeJ, qiB, F5.dJ.dJ.dJ⟩
     have k18 := fun j => F5.cell (g := g10) aQ j
     have f18 := fun j => F5.frozen (g := g10) aQ j
     refine fH (a' := ?_) ?_ ?_
     rotate_left
     ·simp only [wB, Act.put, zA, zZ, zS]
      rfl
     refine laS (i := 11) (N := none) rfl rfl (by kernel_rfl) (by decide) (fun K hK => ?_)
     refine xO (w1 := ?_) (by rfl) rfl ?_ ?_
     rotate_left
     ·go_simp
      rfl
     refine hK.out _ _ ?_
     clear hK K
     refine puS (i := 12) (N := some 14) (v := ?_) (a' := ?_) rfl rfl (by kernel_rfl) (fun _ _ _ h => h) (Or.inl ⟨by rfl, ?_⟩) ?_ ?_
     rotate_left
     ·intro w'
      go_simp
      with_reducible rfl
     rotate_left
     ·simp only [Act.put, zA, zZ, zS, aI, aJ]
      rfl
     refine puS (i := 13) (N := some 15) (v := ?_) (a' := ?_) rfl rfl (by kernel_rfl) (fun _ _ _ h => h) (Or.inl ⟨by rfl, ?_⟩) ?_ ?_
     rotate_left
     ·intro w'
      go_simp
      with_reducible rfl
     rotate_left
     ·simp only [Act.put, zA, zZ, zS, aI, aJ]
      rfl
     refine jT (by kernel_rfl) ?_
     refine uI (rs := [box g10 [.slice A2 Q2.L.l.length c2, .bool Q2.L.dn, .int .i64 Q2.L.fu, .int .i64 Q2.L.fa, .int .i64 Q2.L.size, .int .u64 Q2.L.fr, .int .u64 Q2.L.nx, .bool Q2.L.br, .slice B2 Q2.es.length d2, .int .i64 Q2.most] 33, row k67 67 (.slice A2 (Q2.L.l).length c2) Q2.L.l, row k41 41 (.slice B2 (Q2.es).length d2) Q2.es, box gq [.slice A Q.L.l.length c, .bool Q.L.dn, .int .i64 Q.L.fu, .int .i64 Q.L.fa, .int .i64 Q.L.size, .int .u64 Q.L.fr, .int .u64 Q.L.nx, .bool Q.L.br, .slice B Q.es.length d, .int .i64 Q.most] 33, row k67 67 (.slice A (Q.L.l).length c) Q.L.l, row k41 41 (.slice B (Q.es).length d) Q.es, row Kd.string 9 (.slice Ao (want).length co) want]) (Sep.set0 (Sep.set0 (Sep.set0 (Sep.set0 (Sep.set0 (Sep.set0 (Sep.set0 (Sep.set0 (Sep.set0 (Sep.set0 F5 0 (.slice A2 Q2.L.l.length c2) rfl) 1 (.bool Q2.L.dn) rfl) 2 (.int .i64 Q2.L.fu) rfl) 3 (.int .i64 Q2.L.fa) rfl) 4 (.int .i64 Q2.L.size) rfl) 5 (.int .u64 Q2.L.fr) rfl) 6 (.int .u64 Q2.L.nx) rfl) 7 (.bool Q2.L.br) rfl) 8 (.slice B2 Q2.es.length d2) rfl) 9 (.int .i64 Q2.most) rfl) ?_
     clear F5 k18 f18
     intro wd9 n_
     clear H c_q z_q
     have H := n_
     clear n_
     have c_y := H.out.cell (g := g10) aQ
     have c_q := H.out.cell (g := gq) mem3
     have z_q := H.out.frozen (g := gq) mem3
     have HKC := HK.out H.out
     rcases h4 with ⟨rfl, h5⟩ | hne
     ·
      have HF2 := aC.mk h5
      clear h5
      have n_ : aC (Sep w wd9 [row k67 67 (.slice A2 (Q2.L.l).length c2) Q2.L.l, row k41 41 (.slice B2 (Q2.es).length d2) Q2.es, box g10 [.slice A2 Q2.L.l.length c2, .bool Q2.L.dn, .int .i64 Q2.L.fu, .int .i64 Q2.L.fa, .int .i64 Q2.L.size, .int .u64 Q2.L.fr, .int .u64 Q2.L.nx, .bool Q2.L.br, .slice B2 Q2.es.length d2, .int .i64 Q2.most] 33, box gq [.slice A Q.L.l.length c, .bool Q.L.dn, .int .i64 Q.L.fu, .int .i64 Q.L.fa, .int .i64 Q.L.size, .int .u64 Q.L.fr, .int .u64 Q.L.nx, .bool Q.L.br, .slice B Q.es.length d, .int .i64 Q.most] 33, row Kd.string 9 (.slice Ao (want).length co) want]) := ⟨(Sep.iL (Sep.iL (Sep.gY (Sep.iL (Sep.iL (Sep.oK (Sep.xQ H.out)))))))⟩
      clear H c_y c_q z_q
      have H := n_
      clear n_
      have c_y := H.out.cell (g := g10) mem2
      have c_q := H.out.cell (g := gq) mem3
      have z_q := H.out.frozen (g := gq) mem3
      clear c_y c_q z_q
      have c_y := H.out.cell (g := g10) mem2
      have c_q := H.out.cell (g := gq) mem3
      have z_q := H.out.frozen (g := gq) mem3
      go_wp2_with (first
 |((with_reducible refine aX (t := 33) (p := 9) rfl ?_);
   refine bM (rs1 := [row k67 67 (.slice A2 (Q2.L.l).length c2) Q2.L.l, row k41 41 (.slice B2 (Q2.es).length d2) Q2.es, box g10 [.slice A2 Q2.L.l.length c2, .bool Q2.L.dn, .int .i64 Q2.L.fu, .int .i64 Q2.L.fa, .int .i64 Q2.L.size, .int .u64 Q2.L.fr, .int .u64 Q2.L.nx, .bool Q2.L.br, .slice B2 Q2.es.length d2, .int .i64 Q2.most] 33, box gq [.slice A2 Q2.L.l.length c2, .bool Q2.L.dn, .int .i64 Q2.L.fu, .int .i64 Q2.L.fa, .int .i64 Q2.L.size, .int .u64 Q2.L.fr, .int .u64 Q2.L.nx, .bool Q2.L.br, .slice B2 Q2.es.length d2, .int .i64 Q2.most] 33, row Kd.string 9 (.slice Ao (want).length co) want]) rfl (t := 33) (p := 9) rfl rfl ?hr (H1 := (Sep.eU (Sep.eU (Sep.eU (Sep.eU (Sep.eU (Sep.eU (Sep.eU (Sep.eU (Sep.eU (Sep.eU H.out 0 (.slice A2 Q2.L.l.length c2) rfl) 1 (.bool Q2.L.dn) rfl) 2 (.int .i64 Q2.L.fu) rfl) 3 (.int .i64 Q2.L.fa) rfl) 4 (.int .i64 Q2.L.size) rfl) 5 (.int .u64 Q2.L.fr) rfl) 6 (.int .u64 Q2.L.nx) rfl) 7 (.bool Q2.L.br) rfl) 8 (.slice B2 Q2.es.length d2) rfl) 9 (.int .i64 Q2.most) rfl)) ?_;
   (case hr => first | (go_simp; done) | (go_simp; rfl));
   intro FN n_;
   clear H c_y c_q z_q;
   have H := n_;
   clear n_;
   have c_y := H.out.cell (g := g10) mem2;
   have c_q := H.out.cell (g := gq) mem3;
   have z_q := H.out.frozen (g := gq) mem3;
   have HKD := HK.out H.out)
 |((with_reducible refine iF (b := .append) (xs := #[.tmp 64, .tmp 69]) rfl ?_); at_builtin;
   refine qbj Kd.string Q5 rfl (.tmp 64) (.tmp 69) 22 9 (.string ⟨#[]⟩) 16 rfl Tryz.underlying22 info9 rfl (by decide) (by omega) (.slice Ao (want).length co) _ s [.string s] ?hs ?hx ?hp H ?hl ?_;
   (case hs => first | rfl | (go_simp; done) | (simp; rfl));
   (case hx => first | (go_simp; done) | (go_simp; rfl));
   (case hp => exact rfl);
   (case hl => omega);
   intro Ao2 co2 OU n_;
   clear H c_y c_q z_q;
   have H := n_;
   clear n_;
   have c_y := H.out.cell (g := g10) mem2;
   have c_q := H.out.cell (g := gq) mem3;
   have z_q := H.out.frozen (g := gq) mem3)
 |fail)
      try rw [hw3]
      have hll : want.length + 1 = (want ++ [s]).length := by rw [List.length_append]; rfl
      rw [hll]
      exact ⟨⟨i + 1, Q2, want ++ [s], A2, c2, B2, d2, Ao2, co2, rfl, rfl, by omega, by rw [← hll]; omega, HF2, ⟨(Sep.jQ (Sep.gY (Sep.gY (Sep.jQ (Sep.drop2 H.out)))))⟩⟩, by simp [intOf] <;> omega⟩
     ·
      have hne1 : (e == 0) = false := by simpa using hne
      go_wp2_with fail
      try rw [hw3]
      exact ⟨⟨i + 1, Q, want, A, c, B, d, Ao, co, rfl, rfl, by omega, by omega, HF, ⟨(Sep.dJ (Sep.drop1 (Sep.drop2 H.out)))⟩⟩, by simp [intOf] <;> omega⟩
    ·
     have hcb : decide ((i : Int) < (data.length : Int) ∧ (i : Int) < 12) = false := decide_eq_false hcc
     rw [hcb]
     clear hcb hcc
     go_wp2_with fail
     have hwl : want.length ≤ 12 := by omega
     have HWL := aC.mk hwl
     clear hwl
     go_loopw [8, 11, 16, 17, 18, 19, 20, 21] (fun v8 v11 v16 v17 v18 v19 v20 v21 wr => ∃ (j : Nat) (Q3 : Qu) (m : Nat) (A3 : Option Addr) (c3 : Nat) (B3 : Option Addr) (d3 : Nat) (P11 : Option Addr), v16 = .int .i64 (j : Int) ∧ v11 = .slice P11 (want.length - j) (co - j) ∧ (j < want.length → P11 = vw Ao j) ∧ j ≤ want.length ∧ aC (vV size Q3 (want.drop j) m) ∧ aC (m + (want.drop j).length ≤ 4096) ∧ aC (Sep w wr [box gq [.slice A3 Q3.L.l.length c3, .bool Q3.L.dn, .int .i64 Q3.L.fu, .int .i64 Q3.L.fa, .int .i64 Q3.L.size, .int .u64 Q3.L.fr, .int .u64 Q3.L.nx, .bool Q3.L.br, .slice B3 Q3.es.length d3, .int .i64 Q3.most] 33, row k67 67 (.slice A3 (Q3.L.l).length c3) Q3.L.l, row k41 41 (.slice B3 (Q3.es).length d3) Q3.es, row Kd.string 9 (.slice Ao (want).length co) want])) (fun _ _ v16 _ _ _ _ _ _ => want.length - (intOf v16).toNat)
     case atStart => exact ⟨0, Q, _, A, c, B, d, Ao, rfl, rfl, fun _ => (qdB _).symm, Nat.zero_le _, HF, ⟨by rw [List.drop_zero]; have := HWL.out; omega⟩, H⟩
     case round =>
      clear H HOK HF c_q z_q
      obtain ⟨j, Q3, m, A3, c3, B3, d3, P11, rfl, rfl, qfI, hj, HF3, HM3, H⟩ := hrel
      have qfJ := aC.mk qfI
      clear qfI
      have c_q := H.out.cell (g := gq) aQ
      have z_q := H.out.frozen (g := gq) aQ
      have HOK := aC.mk HF3.out.okr
      go_upto_region 15 with fail
      go_cut [78] (fun v78 wx => v78 = .bool (decide ((j : Int) < qaZ ∧ j < want.length)) ∧ aC (Sep w wx [box gq [.slice A3 Q3.L.l.length c3, .bool Q3.L.dn, .int .i64 Q3.L.fu, .int .i64 Q3.L.fa, .int .i64 Q3.L.size, .int .u64 Q3.L.fr, .int .u64 Q3.L.nx, .bool Q3.L.br, .slice B3 Q3.es.length d3, .int .i64 Q3.most] 33, row k67 67 (.slice A3 (Q3.L.l).length c3) Q3.L.l, row k41 41 (.slice B3 (Q3.es).length d3) Q3.es, row Kd.string 9 (.slice Ao (want).length co) want]))
      case first =>
       by_cases h1 : (j : Int) < qaZ
       ·by_cases h2 : j < want.length
        ·have h3 : ((want.length - j : Nat) : Int) > 0 := by omega
         have h4 : decide (((want.length - j : Nat) : Int) > 0) = true := decide_eq_true h3
         go_wp2_with fail
         go_meet
         exact ⟨by simp [h1, h2] <;> omega, H⟩
        ·have h3 : ¬ ((want.length - j : Nat) : Int) > 0 := by omega
         have h4 : decide (((want.length - j : Nat) : Int) > 0) = false := decide_eq_false h3
         go_wp2_with fail
         go_meet
         exact ⟨by simp [h1, h2] <;> omega, H⟩
       ·go_wp2_with fail
        go_meet
        exact ⟨by simp [h1] <;> omega, H⟩
      case rest =>
       obtain ⟨rfl, n_⟩ := hcut
       clear H c_q z_q
       have H := n_
       clear n_
       have c_q := H.out.cell (g := gq) aQ
       have z_q := H.out.frozen (g := gq) aQ
       by_cases hcc : (j : Int) < qaZ ∧ j < want.length
       ·
        have hcb : decide ((j : Int) < qaZ ∧ j < want.length) = true := decide_eq_true hcc
        rw [hcb]
        obtain ⟨hj1, hjl⟩ := hcc
        have hp2 := qfJ.out hjl
        subst hp2
        have hco := (H.out.reads mem3).2.1
        obtain ⟨ad2, e1, hk⟩ := Kd.yU (H.out.reads mem3).2.2 (j : Int) (by omega) (by omega)
        subst e1
        clear hk hcb
        simp only [vw]
        obtain ⟨s, hs⟩ : ∃ s, want[j]? = some s := ⟨_, List.getElem?_eq_getElem hjl⟩
        have hdr : want.drop j = s :: want.drop (j + 1) := by
         rw [List.drop_eq_getElem_cons hjl]
         congr 1
         exact (List.getElem?_eq_some_iff.1 hs).2
        clear hs
        have hw3 : wrap64 ((j : Int) + 1) = ((j + 1 : Nat) : Int) := by
         have h1 := HWL.out
         unfold wrap64
         omega
        have hm3 := HM3.out
        rw [hdr, List.length_cons] at hm3
        have HF4 := HF3.out
        rw [hdr] at HF4
        obtain ⟨x, Ql, Qd, h1, h2, h3, h4, h5, h6, h7⟩ := HF4.step (by omega)
        have HLE := aC.mk (qaE A3 c3 B3 d3 Q3)
        rw [h1, h2] at HLE
        have HAK := aC.mk (fun A c B d w hr hc hre hce hG => qdv A c B d Ql x.f0 w hr hc hre hce hG h3.1 h3.2.1 h3.2.2 h4 h5)
        dsimp only at HLE
        clear h1 h2 h3 h4 h5 h6 HF4 hdr
        go_wp2_with fail
        refine ((HLE.out _ (H.out.reads mem1).2.2 (H.out.reads mem1).2.1 (H.out.reads mem2).2.2 (H.out.reads mem2).2.1 (HG.out.below H.out.below) HOK.out.1 HOK.out.2.1 HOK.out.2.2).mono ?_)
        rintro e FP ⟨A4, c4, B4, d4, rfl, HJ⟩
        have n_ : aC (Sep w FP [row k67 67 (.slice A4 (Ql.L.l).length c4) Ql.L.l, row k41 41 (.slice B4 (Ql.es).length d4) Ql.es, box gq [.slice A3 Q3.L.l.length c3, .bool Q3.L.dn, .int .i64 Q3.L.fu, .int .i64 Q3.L.fa, .int .i64 Q3.L.size, .int .u64 Q3.L.fr, .int .u64 Q3.L.nx, .bool Q3.L.br, .slice B3 Q3.es.length d3, .int .i64 Q3.most] 33, row k67 67 (.slice A3 (Q3.L.l).length c3) Q3.L.l, row k41 41 (.slice B3 (Q3.es).length d3) Q3.es, row Kd.string 9 (.slice (some ad2) (want).length co) want]) := ⟨gX H.out HJ.out⟩
        clear H c_q z_q
        have H := n_
        clear n_
        have c_q := H.out.cell (g := gq) mem2
        have z_q := H.out.frozen (g := gq) mem2
        clear HJ
        simp only [qc, lgc, List.cons_append, List.nil_append]
        clear HLE
        have n_ : aC (Sep w FP [row k67 67 (.slice A4 (Ql.L.l).length c4) Ql.L.l, row k41 41 (.slice B4 (Ql.es).length d4) Ql.es, box gq [.slice A3 Q3.L.l.length c3, .bool Q3.L.dn, .int .i64 Q3.L.fu, .int .i64 Q3.L.fa, .int .i64 Q3.L.size, .int .u64 Q3.L.fr, .int .u64 Q3.L.nx, .bool Q3.L.br, .slice B3 Q3.es.length d3, .int .i64 Q3.most] 33, row Kd.string 9 (.slice (some ad2) (want).length co) want]) := ⟨(Sep.jU (Sep.oK H.out))⟩
        clear H c_q z_q
        have H := n_
        clear n_
        have c_q := H.out.cell (g := gq) mem2
        have z_q := H.out.frozen (g := gq) mem2
        go_wp2_with (first
 |((with_reducible refine aV (N := 17) rfl ?_);
   refine bP rfl H (cs := [.slice none 0 0, .bool false, .int .i64 0, .int .i64 0, .int .i64 0, .int .u64 0, .int .u64 0, .bool false, .slice none 0 0, .int .i64 0]) (t := 33) ?hr ?_;
   (case hr => first | (go_simp; done) | (go_simp; rfl));
   intro gy SX n_;
   simp only [Act.put, zA, zZ, zS];
   clear H c_q z_q;
   have H := n_;
   clear n_;
   have c_y := H.out.cell (g := gy) aQ;
   have z_y := H.out.frozen (g := gy) aQ;
   have c_q := H.out.cell (g := gq) mem3)
 |((with_reducible refine aV (N := 18) rfl ?_);
   refine bP rfl H (cs := [.int .u64 0, .string ⟨#[]⟩, .bool false]) (t := 41) ?hr ?_;
   (case hr => first | (go_simp; done) | (go_simp; rfl));
   intro gx qav n_;
   simp only [Act.put, zA, zZ, zS];
   clear H c_y z_y c_q;
   have H := n_;
   clear n_;
   have c_x := H.out.cell (g := gx) aQ;
   have z_x := H.out.frozen (g := gx) aQ;
   have c_y := H.out.cell (g := gy) mem1;
   have z_y := H.out.frozen (g := gy) mem1;
   have c_q := H.out.cell (g := gq) dM)
 |((with_reducible refine aX (t := 33) (p := 17) rfl ?_);
   refine bM (rs1 := [box gx [.int .u64 0, .string ⟨#[]⟩, .bool false] 41, box gy [.slice A4 Ql.L.l.length c4, .bool Ql.L.dn, .int .i64 Ql.L.fu, .int .i64 Ql.L.fa, .int .i64 Ql.L.size, .int .u64 Ql.L.fr, .int .u64 Ql.L.nx, .bool Ql.L.br, .slice B4 Ql.es.length d4, .int .i64 Ql.most] 33, row k67 67 (.slice A4 (Ql.L.l).length c4) Ql.L.l, row k41 41 (.slice B4 (Ql.es).length d4) Ql.es, box gq [.slice A3 Q3.L.l.length c3, .bool Q3.L.dn, .int .i64 Q3.L.fu, .int .i64 Q3.L.fa, .int .i64 Q3.L.size, .int .u64 Q3.L.fr, .int .u64 Q3.L.nx, .bool Q3.L.br, .slice B3 Q3.es.length d3, .int .i64 Q3.most] 33, row Kd.string 9 (.slice (some ad2) (want).length co) want]) rfl (t := 33) (p := 17) rfl rfl ?hr (H1 := (Sep.set1 (Sep.set1 (Sep.set1 (Sep.set1 (Sep.set1 (Sep.set1 (Sep.set1 (Sep.set1 (Sep.set1 (Sep.set1 H.out 0 (.slice A4 Ql.L.l.length c4) rfl) 1 (.bool Ql.L.dn) rfl) 2 (.int .i64 Ql.L.fu) rfl) 3 (.int .i64 Ql.L.fa) rfl) 4 (.int .i64 Ql.L.size) rfl) 5 (.int .u64 Ql.L.fr) rfl) 6 (.int .u64 Ql.L.nx) rfl) 7 (.bool Ql.L.br) rfl) 8 (.slice B4 Ql.es.length d4) rfl) 9 (.int .i64 Ql.most) rfl)) ?_;
   (case hr => first | (go_simp; done) | (go_simp; rfl));
   intro qbU n_;
   clear H c_x z_x c_y z_y c_q;
   have H := n_;
   clear n_;
   have c_x := H.out.cell (g := gx) aQ;
   have z_x := H.out.frozen (g := gx) aQ;
   have c_y := H.out.cell (g := gy) mem1;
   have z_y := H.out.frozen (g := gy) mem1;
   have c_q := H.out.cell (g := gq) dM)
 |((with_reducible refine aX (t := 41) (p := 18) rfl ?_);
   refine bM (rs1 := [box gx [.int .u64 x.f0, .string s, .bool true] 41, box gy [.slice A4 Ql.L.l.length c4, .bool Ql.L.dn, .int .i64 Ql.L.fu, .int .i64 Ql.L.fa, .int .i64 Ql.L.size, .int .u64 Ql.L.fr, .int .u64 Ql.L.nx, .bool Ql.L.br, .slice B4 Ql.es.length d4, .int .i64 Ql.most] 33, row k67 67 (.slice A4 (Ql.L.l).length c4) Ql.L.l, row k41 41 (.slice B4 (Ql.es).length d4) Ql.es, box gq [.slice A3 Q3.L.l.length c3, .bool Q3.L.dn, .int .i64 Q3.L.fu, .int .i64 Q3.L.fa, .int .i64 Q3.L.size, .int .u64 Q3.L.fr, .int .u64 Q3.L.nx, .bool Q3.L.br, .slice B3 Q3.es.length d3, .int .i64 Q3.most] 33, row Kd.string 9 (.slice (some ad2) (want).length co) want]) rfl (t := 41) (p := 18) rfl rfl ?hr (H1 := (Sep.set0 (Sep.set0 (Sep.set0 H.out 0 (.int .u64 x.f0) rfl) 1 (.string s) rfl) 2 (.bool true) rfl)) ?_;
   (case hr => first | (go_simp; done) | (go_simp; rfl));
   intro qcW n_;
   clear H c_x z_x c_y z_y c_q;
   have H := n_;
   clear n_;
   have c_x := H.out.cell (g := gx) aQ;
   have z_x := H.out.frozen (g := gx) aQ;
   have c_y := H.out.cell (g := gy) mem1;
   have z_y := H.out.frozen (g := gy) mem1;
   have c_q := H.out.cell (g := gq) dM)
 |fail)
        rcases h7 with ⟨h8, h9⟩ | h8
        ·
         rw [h8] at HAK
         dsimp only at HAK
         clear h8
         refine ((HAK.out _ _ _ _ _ (H.out.reads mem2).2.2 (H.out.reads mem2).2.1 (H.out.reads mem3).2.2 (H.out.reads mem3).2.1 (HG.out.below H.out.below)).mono ?_)
         rintro e qaw ⟨A5, c5, B5, d5, rfl, HJ⟩
         have n_ : aC (Sep w qaw [row k67 67 (.slice A5 (Qd.L.l).length c5) Qd.L.l, row k41 41 (.slice B5 (Qd.es).length d5) Qd.es, box gx [.int .u64 x.f0, .string s, .bool true] 41, box gy [.slice A4 Ql.L.l.length c4, .bool Ql.L.dn, .int .i64 Ql.L.fu, .int .i64 Ql.L.fa, .int .i64 Ql.L.size, .int .u64 Ql.L.fr, .int .u64 Ql.L.nx, .bool Ql.L.br, .slice B4 Ql.es.length d4, .int .i64 Ql.most] 33, row k67 67 (.slice A4 (Ql.L.l).length c4) Ql.L.l, row k41 41 (.slice B4 (Ql.es).length d4) Ql.es, box gq [.slice A3 Q3.L.l.length c3, .bool Q3.L.dn, .int .i64 Q3.L.fu, .int .i64 Q3.L.fa, .int .i64 Q3.L.size, .int .u64 Q3.L.fr, .int .u64 Q3.L.nx, .bool Q3.L.br, .slice B3 Q3.es.length d3, .int .i64 Q3.most] 33, row Kd.string 9 (.slice (some ad2) (want).length co) want]) := ⟨gX H.out HJ.out⟩
         clear H c_x z_x c_y z_y c_q
         have H := n_
         clear n_
         have c_x := H.out.cell (g := gx) mem2
         have z_x := H.out.frozen (g := gx) mem2
         have c_y := H.out.cell (g := gy) mem3
         have z_y := H.out.frozen (g := gy) mem3
         have c_q := H.out.cell (g := gq) rP
         clear HJ
         simp only [qc, lgc, List.cons_append, List.nil_append]
         clear HAK
         have n_ : aC (Sep w qaw [row k67 67 (.slice A5 (Qd.L.l).length c5) Qd.L.l, row k41 41 (.slice B5 (Qd.es).length d5) Qd.es, box gq [.slice A3 Q3.L.l.length c3, .bool Q3.L.dn, .int .i64 Q3.L.fu, .int .i64 Q3.L.fa, .int .i64 Q3.L.size, .int .u64 Q3.L.fr, .int .u64 Q3.L.nx, .bool Q3.L.br, .slice B3 Q3.es.length d3, .int .i64 Q3.most] 33, row Kd.string 9 (.slice (some ad2) (want).length co) want]) := ⟨(Sep.drop2 (Sep.jU (Sep.oK (Sep.xQ H.out))))⟩
         clear H c_x z_x c_y z_y c_q
         have H := n_
         clear n_
         have c_q := H.out.cell (g := gq) mem2
         clear c_q
         have c_q := H.out.cell (g := gq) mem2
         have z_q := H.out.frozen (g := gq) mem2
         have hn1 : (1 : Int) ≤ ((want.length - j : Nat) : Int) := by omega
         go_wp2_with (first
 |((with_reducible refine aV (N := 20) rfl ?_);
   refine bP rfl H (cs := [.slice none 0 0, .bool false, .int .i64 0, .int .i64 0, .int .i64 0, .int .u64 0, .int .u64 0, .bool false, .slice none 0 0, .int .i64 0]) (t := 33) ?hr ?_;
   (case hr => first | (go_simp; done) | (go_simp; rfl));
   intro gu qcX n_;
   simp only [Act.put, zA, zZ, zS];
   clear H c_q z_q;
   have H := n_;
   clear n_;
   have c_u := H.out.cell (g := gu) aQ;
   have z_u := H.out.frozen (g := gu) aQ;
   have c_q := H.out.cell (g := gq) mem3;
   have z_q := H.out.frozen (g := gq) mem3)
 |((with_reducible refine aX (t := 33) (p := 20) rfl ?_);
   refine bM (rs1 := [box gu [.slice A5 Qd.L.l.length c5, .bool Qd.L.dn, .int .i64 Qd.L.fu, .int .i64 Qd.L.fa, .int .i64 Qd.L.size, .int .u64 Qd.L.fr, .int .u64 Qd.L.nx, .bool Qd.L.br, .slice B5 Qd.es.length d5, .int .i64 Qd.most] 33, row k67 67 (.slice A5 (Qd.L.l).length c5) Qd.L.l, row k41 41 (.slice B5 (Qd.es).length d5) Qd.es, box gq [.slice A3 Q3.L.l.length c3, .bool Q3.L.dn, .int .i64 Q3.L.fu, .int .i64 Q3.L.fa, .int .i64 Q3.L.size, .int .u64 Q3.L.fr, .int .u64 Q3.L.nx, .bool Q3.L.br, .slice B3 Q3.es.length d3, .int .i64 Q3.most] 33, row Kd.string 9 (.slice (some ad2) (want).length co) want]) rfl (t := 33) (p := 20) rfl rfl ?hr (H1 := (Sep.set0 (Sep.set0 (Sep.set0 (Sep.set0 (Sep.set0 (Sep.set0 (Sep.set0 (Sep.set0 (Sep.set0 (Sep.set0 H.out 0 (.slice A5 Qd.L.l.length c5) rfl) 1 (.bool Qd.L.dn) rfl) 2 (.int .i64 Qd.L.fu) rfl) 3 (.int .i64 Qd.L.fa) rfl) 4 (.int .i64 Qd.L.size) rfl) 5 (.int .u64 Qd.L.fr) rfl) 6 (.int .u64 Qd.L.nx) rfl) 7 (.bool Qd.L.br) rfl) 8 (.slice B5 Qd.es.length d5) rfl) 9 (.int .i64 Qd.most) rfl)) ?_;
   (case hr => first | (go_simp; done) | (go_simp; rfl));
   intro qer n_;
   clear H c_u z_u c_q z_q;
   have H := n_;
   clear n_;
   have c_u := H.out.cell (g := gu) aQ;
   have z_u := H.out.frozen (g := gu) aQ;
   have c_q := H.out.cell (g := gq) mem3;
   have z_q := H.out.frozen (g := gq) mem3)
 |((with_reducible refine aX (t := 33) (p := 9) rfl ?_);
   refine bM (rs1 := [box gu [.slice A5 Qd.L.l.length c5, .bool Qd.L.dn, .int .i64 Qd.L.fu, .int .i64 Qd.L.fa, .int .i64 Qd.L.size, .int .u64 Qd.L.fr, .int .u64 Qd.L.nx, .bool Qd.L.br, .slice B5 Qd.es.length d5, .int .i64 Qd.most] 33, row k67 67 (.slice A5 (Qd.L.l).length c5) Qd.L.l, row k41 41 (.slice B5 (Qd.es).length d5) Qd.es, box gq [.slice A5 Qd.L.l.length c5, .bool Qd.L.dn, .int .i64 Qd.L.fu, .int .i64 Qd.L.fa, .int .i64 Qd.L.size, .int .u64 Qd.L.fr, .int .u64 Qd.L.nx, .bool Qd.L.br, .slice B5 Qd.es.length d5, .int .i64 Qd.most] 33, row Kd.string 9 (.slice (some ad2) (want).length co) want]) rfl (t := 33) (p := 9) rfl rfl ?hr (H1 := (Sep.eU (Sep.eU (Sep.eU (Sep.eU (Sep.eU (Sep.eU (Sep.eU (Sep.eU (Sep.eU (Sep.eU H.out 0 (.slice A5 Qd.L.l.length c5) rfl) 1 (.bool Qd.L.dn) rfl) 2 (.int .i64 Qd.L.fu) rfl) 3 (.int .i64 Qd.L.fa) rfl) 4 (.int .i64 Qd.L.size) rfl) 5 (.int .u64 Qd.L.fr) rfl) 6 (.int .u64 Qd.L.nx) rfl) 7 (.bool Qd.L.br) rfl) 8 (.slice B5 Qd.es.length d5) rfl) 9 (.int .i64 Qd.most) rfl)) ?_;
   (case hr => first | (go_simp; done) | (go_simp; rfl));
   intro qfc n_;
   clear H c_u z_u c_q z_q;
   have H := n_;
   clear n_;
   have c_u := H.out.cell (g := gu) aQ;
   have z_u := H.out.frozen (g := gu) aQ;
   have c_q := H.out.cell (g := gq) mem3;
   have z_q := H.out.frozen (g := gq) mem3)
 |fail)
         try rw [hw3]
         refine ⟨⟨j + 1, Qd, m + 1, A5, c5, B5, d5, (if co - j = 1 then some (ad2.add j) else some { block := (ad2.add j).block, off := (ad2.add j).off + 1 }), rfl, ?_, fun hlt => ?_, by omega, ⟨h9⟩, ⟨by omega⟩, ⟨(Sep.jQ (Sep.gY (Sep.gY (Sep.jQ (Sep.dJ H.out)))))⟩⟩, by simp [intOf] <;> omega⟩
         ·rw [show want.length - (j + 1) = want.length - j - 1 by omega, show co - (j + 1) = co - j - 1 by omega]
         ·rw [if_neg (by omega)]
          by_cases hj0 : j = 0 <;> simp [hj0, vw, Addr.add, Nat.add_assoc]
        ·
         rw [h8] at HAK
         dsimp only at HAK
         clear h8
         refine ((HAK.out _ _ _ _ _ (H.out.reads mem2).2.2 (H.out.reads mem2).2.1 (H.out.reads mem3).2.2 (H.out.reads mem3).2.1 (HG.out.below H.out.below)).mono ?_)
         rintro e qcY ⟨A5, c5, B5, d5, rfl, HJ⟩
         have n_ : aC (Sep w qcY [row k67 67 (.slice A5 (Qd.L.l).length c5) Qd.L.l, row k41 41 (.slice B5 (Qd.es).length d5) Qd.es, box gx [.int .u64 x.f0, .string s, .bool true] 41, box gy [.slice A4 Ql.L.l.length c4, .bool Ql.L.dn, .int .i64 Ql.L.fu, .int .i64 Ql.L.fa, .int .i64 Ql.L.size, .int .u64 Ql.L.fr, .int .u64 Ql.L.nx, .bool Ql.L.br, .slice B4 Ql.es.length d4, .int .i64 Ql.most] 33, row k67 67 (.slice A4 (Ql.L.l).length c4) Ql.L.l, row k41 41 (.slice B4 (Ql.es).length d4) Ql.es, box gq [.slice A3 Q3.L.l.length c3, .bool Q3.L.dn, .int .i64 Q3.L.fu, .int .i64 Q3.L.fa, .int .i64 Q3.L.size, .int .u64 Q3.L.fr, .int .u64 Q3.L.nx, .bool Q3.L.br, .slice B3 Q3.es.length d3, .int .i64 Q3.most] 33, row Kd.string 9 (.slice (some ad2) (want).length co) want]) := ⟨gX H.out HJ.out⟩
         clear H c_x z_x c_y z_y c_q
         have H := n_
         clear n_
         have c_x := H.out.cell (g := gx) mem2
         have z_x := H.out.frozen (g := gx) mem2
         have c_y := H.out.cell (g := gy) mem3
         have z_y := H.out.frozen (g := gy) mem3
         have c_q := H.out.cell (g := gq) rP
         clear HJ
         simp only [qc, lgc, List.cons_append, List.nil_append]
         clear HAK
         go_wp2_with (first
 |((with_reducible refine aV (N := 20) rfl ?_);
   refine bP rfl H (cs := [.slice none 0 0, .bool false, .int .i64 0, .int .i64 0, .int .i64 0, .int .u64 0, .int .u64 0, .bool false, .slice none 0 0, .int .i64 0]) (t := 33) ?hr ?_;
   (case hr => first | (go_simp; done) | (go_simp; rfl));
   intro gu qfd n_;
   simp only [Act.put, zA, zZ, zS];
   clear H c_x z_x c_y z_y c_q;
   have H := n_;
   clear n_;
   have c_u := H.out.cell (g := gu) aQ;
   have z_u := H.out.frozen (g := gu) aQ;
   have c_x := H.out.cell (g := gx) mem3;
   have c_y := H.out.cell (g := gy) dM;
   have c_q := H.out.cell (g := gq) sF)
 |((with_reducible refine aX (t := 33) (p := 20) rfl ?_);
   refine bM (rs1 := [box gu [.slice A5 Qd.L.l.length c5, .bool Qd.L.dn, .int .i64 Qd.L.fu, .int .i64 Qd.L.fa, .int .i64 Qd.L.size, .int .u64 Qd.L.fr, .int .u64 Qd.L.nx, .bool Qd.L.br, .slice B5 Qd.es.length d5, .int .i64 Qd.most] 33, row k67 67 (.slice A5 (Qd.L.l).length c5) Qd.L.l, row k41 41 (.slice B5 (Qd.es).length d5) Qd.es, box gx [.int .u64 x.f0, .string s, .bool true] 41, box gy [.slice A4 Ql.L.l.length c4, .bool Ql.L.dn, .int .i64 Ql.L.fu, .int .i64 Ql.L.fa, .int .i64 Ql.L.size, .int .u64 Ql.L.fr, .int .u64 Ql.L.nx, .bool Ql.L.br, .slice B4 Ql.es.length d4, .int .i64 Ql.most] 33, row k67 67 (.slice A4 (Ql.L.l).length c4) Ql.L.l, row k41 41 (.slice B4 (Ql.es).length d4) Ql.es, box gq [.slice A3 Q3.L.l.length c3, .bool Q3.L.dn, .int .i64 Q3.L.fu, .int .i64 Q3.L.fa, .int .i64 Q3.L.size, .int .u64 Q3.L.fr, .int .u64 Q3.L.nx, .bool Q3.L.br, .slice B3 Q3.es.length d3, .int .i64 Q3.most] 33, row Kd.string 9 (.slice (some ad2) (want).length co) want]) rfl (t := 33) (p := 20) rfl rfl ?hr (H1 := (Sep.set0 (Sep.set0 (Sep.set0 (Sep.set0 (Sep.set0 (Sep.set0 (Sep.set0 (Sep.set0 (Sep.set0 (Sep.set0 H.out 0 (.slice A5 Qd.L.l.length c5) rfl) 1 (.bool Qd.L.dn) rfl) 2 (.int .i64 Qd.L.fu) rfl) 3 (.int .i64 Qd.L.fa) rfl) 4 (.int .i64 Qd.L.size) rfl) 5 (.int .u64 Qd.L.fr) rfl) 6 (.int .u64 Qd.L.nx) rfl) 7 (.bool Qd.L.br) rfl) 8 (.slice B5 Qd.es.length d5) rfl) 9 (.int .i64 Qd.most) rfl)) ?_;
   (case hr => first | (go_simp; done) | (go_simp; rfl));
   intro qfe n_;
   clear H c_u z_u c_x c_y c_q;
   have H := n_;
   clear n_;
   have c_u := H.out.cell (g := gu) aQ;
   have z_u := H.out.frozen (g := gu) aQ;
   have c_x := H.out.cell (g := gx) mem3;
   have c_y := H.out.cell (g := gy) dM;
   have c_q := H.out.cell (g := gq) sF)
 |fail)
         go_ret
         exact ⟨by first | rfl | simp, H.out.below⟩
       ·
        have hcb : decide ((j : Int) < qaZ ∧ j < want.length) = false := decide_eq_false hcc
        rw [hcb]
        clear hcb hcc
        have HJ := aC.mk hj
        go_wp2_with fail
        have HAG := aC.mk (HF3.out.again ks)
        have hln : (Q3.es.length : Int) = ((want.length - j : Nat) : Int) := by
         have h1 := HF3.out.len
         rw [List.length_drop] at h1
         omega
        have HLN := aC.mk hln
        have HEL : aC (Q3.es.length ≤ 12) := ⟨by have := HWL.out; omega⟩
        clear hln
        go_loopw [8, 22, 23, 24, 25, 26, 27, 28] (fun v8 v22 v23 v24 v25 v26 v27 v28 wr => ∃ (r : Nat) (A6 : Option Addr) (c6 : Nat) (B6 : Option Addr) (d6 : Nat), v22 = .int .i64 (r : Int) ∧ r ≤ 3 ∧ aC (Sep w wr [box gq [.slice A6 Q3.L.l.length c6, .bool Q3.L.dn, .int .i64 Q3.L.fu, .int .i64 Q3.L.fa, .int .i64 Q3.L.size, .int .u64 Q3.L.fr, .int .u64 Q3.L.nx, .bool Q3.L.br, .slice B6 Q3.es.length d6, .int .i64 Q3.most] 33, row k67 67 (.slice A6 (Q3.L.l).length c6) Q3.L.l, row k41 41 (.slice B6 (Q3.es).length d6) Q3.es, row Kd.string 9 (.slice Ao (want).length co) want])) (fun _ v22 _ _ _ _ _ _ _ => 3 - (intOf v22).toNat)
        case atStart => exact ⟨0, A3, c3, B3, d3, rfl, by decide, H⟩
        case round =>
         clear H c_q z_q
         obtain ⟨r, A6, c6, B6, d6, rfl, hr3, H⟩ := hrel
         have c_q := H.out.cell (g := gq) aQ
         have z_q := H.out.frozen (g := gq) aQ
         by_cases hrl : (r : Int) < 3
         ·
          have hw3 : wrap64 ((r : Int) + 1) = ((r + 1 : Nat) : Int) := by
           unfold wrap64
           omega
          have HOP := aC.mk (fun A c w hr hc hG => NR A c (fA Q3.L.l ks) false (-1) (-1) size 1024 w hr hc hG)
          rw [HAG.out.2] at HOP
          simp only [qc, lgc, List.cons_append, List.nil_append] at HOP
          go_wp2_with fail
          refine ((tC.calls A6 c6 Q3.L.l Q3.L.dn Q3.L.fu Q3.L.fa Ak ck ks (fA Q3.L.l ks) false (-1) (-1) 0 _ (H.out.reads mem1).2.2 (H.out.reads mem1).2.1 (H.out.came HRk.out) HCk.out (by rw [tC.f, if_pos HAG.out.1])).mono ?_)
          rintro e qcZ ⟨v_, rfl, ho_, hb_⟩
          obtain ⟨Acr, ccr, eo_⟩ := Kd.dW ho_
          subst eo_
          have n_ : aC (Sep w qcZ [row k67 67 (.slice Acr ((fA Q3.L.l ks)).length ccr) ((fA Q3.L.l ks)), box gq [.slice A6 Q3.L.l.length c6, .bool Q3.L.dn, .int .i64 Q3.L.fu, .int .i64 Q3.L.fa, .int .i64 Q3.L.size, .int .u64 Q3.L.fr, .int .u64 Q3.L.nx, .bool Q3.L.br, .slice B6 Q3.es.length d6, .int .i64 Q3.most] 33, row k67 67 (.slice A6 (Q3.L.l).length c6) Q3.L.l, row k41 41 (.slice B6 (Q3.es).length d6) Q3.es, row Kd.string 9 (.slice Ao (want).length co) want]) := ⟨Sep.jR H.out hb_ ho_ oN⟩
          clear H c_q z_q
          have H := n_
          clear n_
          have c_q := H.out.cell (g := gq) mem1
          have z_q := H.out.frozen (g := gq) mem1
          clear ho_ hb_
          have n_ : aC (Sep w qcZ [row k67 67 (.slice Acr ((fA Q3.L.l ks)).length ccr) ((fA Q3.L.l ks)), box gq [.slice A6 Q3.L.l.length c6, .bool Q3.L.dn, .int .i64 Q3.L.fu, .int .i64 Q3.L.fa, .int .i64 Q3.L.size, .int .u64 Q3.L.fr, .int .u64 Q3.L.nx, .bool Q3.L.br, .slice B6 Q3.es.length d6, .int .i64 Q3.most] 33, row Kd.string 9 (.slice Ao (want).length co) want]) := ⟨(Sep.drop2 (Sep.jU H.out))⟩
          clear H c_q z_q
          have H := n_
          clear n_
          have c_q := H.out.cell (g := gq) mem1
          have z_q := H.out.frozen (g := gq) mem1
          go_wp2_with (first
 |((with_reducible refine aV (N := 23) rfl ?_);
   refine bP rfl H (cs := [.slice none 0 0, .bool false, .int .i64 0, .int .i64 0]) (t := 27) ?hr ?_;
   (case hr => first | (go_simp; done) | (go_simp; rfl));
   intro gd qff n_;
   simp only [Act.put, zA, zZ, zS];
   clear H c_q z_q;
   have H := n_;
   clear n_;
   have c_d := H.out.cell (g := gd) aQ;
   have z_d := H.out.frozen (g := gd) aQ;
   have c_q := H.out.cell (g := gq) mem2)
 |((with_reducible refine aX (t := 27) (p := 23) rfl ?_);
   refine bM (rs1 := [box gd [.slice Acr (fA Q3.L.l ks).length ccr, .bool false, .int .i64 (-1), .int .i64 (-1)] 27, row k67 67 (.slice Acr ((fA Q3.L.l ks)).length ccr) ((fA Q3.L.l ks)), box gq [.slice A6 Q3.L.l.length c6, .bool Q3.L.dn, .int .i64 Q3.L.fu, .int .i64 Q3.L.fa, .int .i64 Q3.L.size, .int .u64 Q3.L.fr, .int .u64 Q3.L.nx, .bool Q3.L.br, .slice B6 Q3.es.length d6, .int .i64 Q3.most] 33, row Kd.string 9 (.slice Ao (want).length co) want]) rfl (t := 27) (p := 23) rfl rfl ?hr (H1 := (Sep.set0 (Sep.set0 (Sep.set0 (Sep.set0 H.out 0 (.slice Acr (fA Q3.L.l ks).length ccr) rfl) 1 (.bool false) rfl) 2 (.int .i64 (-1)) rfl) 3 (.int .i64 (-1)) rfl)) ?_;
   (case hr => first | (go_simp; done) | (go_simp; rfl));
   intro qes n_;
   clear H c_d z_d c_q;
   have H := n_;
   clear n_;
   have c_d := H.out.cell (g := gd) aQ;
   have z_d := H.out.frozen (g := gd) aQ;
   have c_q := H.out.cell (g := gq) mem2)
 |fail)
          refine ((HOP.out _ _ _ (H.out.reads mem1).2.2 (H.out.reads mem1).2.1 (HG.out.below H.out.below)).mono ?_)
          rintro e qc0 ⟨A7, c7, B7, d7, rfl, HJ⟩
          have n_ : aC (Sep w qc0 [row k67 67 (.slice A7 (Q3.L.l).length c7) Q3.L.l, row k41 41 (.slice B7 (Q3.es).length d7) Q3.es, box gd [.slice Acr (fA Q3.L.l ks).length ccr, .bool false, .int .i64 (-1), .int .i64 (-1)] 27, row k67 67 (.slice Acr ((fA Q3.L.l ks)).length ccr) ((fA Q3.L.l ks)), box gq [.slice A6 Q3.L.l.length c6, .bool Q3.L.dn, .int .i64 Q3.L.fu, .int .i64 Q3.L.fa, .int .i64 Q3.L.size, .int .u64 Q3.L.fr, .int .u64 Q3.L.nx, .bool Q3.L.br, .slice B6 Q3.es.length d6, .int .i64 Q3.most] 33, row Kd.string 9 (.slice Ao (want).length co) want]) := ⟨gX H.out HJ.out⟩
          clear H c_d z_d c_q
          have H := n_
          clear n_
          have c_d := H.out.cell (g := gd) mem2
          have z_d := H.out.frozen (g := gd) mem2
          have c_q := H.out.cell (g := gq) dM
          clear HJ
          clear HOP
          try simp only [qc, lgc, List.cons_append, List.nil_append]
          have n_ : aC (Sep w qc0 [row k67 67 (.slice A7 (Q3.L.l).length c7) Q3.L.l, row k41 41 (.slice B7 (Q3.es).length d7) Q3.es, box gq [.slice A6 Q3.L.l.length c6, .bool Q3.L.dn, .int .i64 Q3.L.fu, .int .i64 Q3.L.fa, .int .i64 Q3.L.size, .int .u64 Q3.L.fr, .int .u64 Q3.L.nx, .bool Q3.L.br, .slice B6 Q3.es.length d6, .int .i64 Q3.most] 33, row Kd.string 9 (.slice Ao (want).length co) want]) := ⟨(Sep.drop2 (Sep.jU H.out))⟩
          clear H c_d z_d c_q
          have H := n_
          clear n_
          have c_q := H.out.cell (g := gq) mem2
          have hlb : ((Q3.es.length : Int) != ((want.length - j : Nat) : Int)) = false := by rw [HLN.out]; simp
          go_wp2_with (first
 |((with_reducible refine aV (N := 25) rfl ?_);
   refine bP rfl H (cs := [.slice none 0 0, .bool false, .int .i64 0, .int .i64 0, .int .i64 0, .int .u64 0, .int .u64 0, .bool false, .slice none 0 0, .int .i64 0]) (t := 33) ?hr ?_;
   (case hr => first | (go_simp; done) | (go_simp; rfl));
   intro gp qhS n_;
   simp only [Act.put, zA, zZ, zS];
   clear H c_q;
   have H := n_;
   clear n_;
   have c_p := H.out.cell (g := gp) aQ;
   have z_p := H.out.frozen (g := gp) aQ;
   have c_q := H.out.cell (g := gq) mem3)
 |((with_reducible refine aX (t := 33) (p := 25) rfl ?_);
   refine bM (rs1 := [box gp [.slice A7 Q3.L.l.length c7, .bool Q3.L.dn, .int .i64 Q3.L.fu, .int .i64 Q3.L.fa, .int .i64 Q3.L.size, .int .u64 Q3.L.fr, .int .u64 Q3.L.nx, .bool Q3.L.br, .slice B7 Q3.es.length d7, .int .i64 Q3.most] 33, row k67 67 (.slice A7 (Q3.L.l).length c7) Q3.L.l, row k41 41 (.slice B7 (Q3.es).length d7) Q3.es, box gq [.slice A6 Q3.L.l.length c6, .bool Q3.L.dn, .int .i64 Q3.L.fu, .int .i64 Q3.L.fa, .int .i64 Q3.L.size, .int .u64 Q3.L.fr, .int .u64 Q3.L.nx, .bool Q3.L.br, .slice B6 Q3.es.length d6, .int .i64 Q3.most] 33, row Kd.string 9 (.slice Ao (want).length co) want]) rfl (t := 33) (p := 25) rfl rfl ?hr (H1 := (Sep.set0 (Sep.set0 (Sep.set0 (Sep.set0 (Sep.set0 (Sep.set0 (Sep.set0 (Sep.set0 (Sep.set0 (Sep.set0 H.out 0 (.slice A7 Q3.L.l.length c7) rfl) 1 (.bool Q3.L.dn) rfl) 2 (.int .i64 Q3.L.fu) rfl) 3 (.int .i64 Q3.L.fa) rfl) 4 (.int .i64 Q3.L.size) rfl) 5 (.int .u64 Q3.L.fr) rfl) 6 (.int .u64 Q3.L.nx) rfl) 7 (.bool Q3.L.br) rfl) 8 (.slice B7 Q3.es.length d7) rfl) 9 (.int .i64 Q3.most) rfl)) ?_;
   (case hr => first | (go_simp; done) | (go_simp; rfl));
   intro qhT n_;
   clear H c_p z_p c_q;
   have H := n_;
   clear n_;
   have c_p := H.out.cell (g := gp) aQ;
   have z_p := H.out.frozen (g := gp) aQ;
   have c_q := H.out.cell (g := gq) mem3)
 |fail)
          go_loopw [8, 27, 28, 144] (fun v8 v27 v28 qeN wr => ∃ k : Nat, qeN = .int .i64 (k : Int) ∧ k ≤ Q3.es.length ∧ aC (Sep w wr [box gp [.slice A7 Q3.L.l.length c7, .bool Q3.L.dn, .int .i64 Q3.L.fu, .int .i64 Q3.L.fa, .int .i64 Q3.L.size, .int .u64 Q3.L.fr, .int .u64 Q3.L.nx, .bool Q3.L.br, .slice B7 Q3.es.length d7, .int .i64 Q3.most] 33, row k67 67 (.slice A7 (Q3.L.l).length c7) Q3.L.l, row k41 41 (.slice B7 (Q3.es).length d7) Q3.es, box gq [.slice A6 Q3.L.l.length c6, .bool Q3.L.dn, .int .i64 Q3.L.fu, .int .i64 Q3.L.fa, .int .i64 Q3.L.size, .int .u64 Q3.L.fr, .int .u64 Q3.L.nx, .bool Q3.L.br, .slice B6 Q3.es.length d6, .int .i64 Q3.most] 33, row Kd.string 9 (.slice Ao (want).length co) want])) (fun _ _ _ qeN _ => Q3.es.length - (intOf qeN).toNat)
          case atStart => exact ⟨0, rfl, Nat.zero_le _, H⟩
          case round =>
           clear H c_p z_p c_q
           obtain ⟨k, rfl, hk, H⟩ := hrel
           have c_p := H.out.cell (g := gp) aQ
           have c_q := H.out.cell (g := gq) mem3
           by_cases hkl : k < Q3.es.length
           ·
            obtain ⟨x, hx⟩ : ∃ x, Q3.es[k]? = some x := ⟨_, List.getElem?_eq_getElem hkl⟩
            have hwk : want[j + k]? = some x.f1 := by
             have h1 := HF3.out.get hx
             rw [List.getElem?_drop] at h1
             exact h1
            have hjk : j + k < want.length := (List.getElem?_eq_some_iff.1 hwk).1
            have hp2 := qfJ.out (by omega)
            subst hp2
            obtain ⟨gB, hgB⟩ := uM (B := B7) (d := d7) (es := Q3.es) H.out mem2 (by omega)
            subst hgB
            obtain ⟨q0, q1, q2, -⟩ := tY (gp := gB) (d := d7) (es := Q3.es) (i := k) H.out mem2 hx
            obtain ⟨ad2, e1, -⟩ := Kd.yU (H.out.reads dM).2.2 (j : Int) (by omega) (by omega)
            subst e1
            simp only [vw]
            have HK : aC (∀ {W' : World} {n : Nat}, Kd.C Kd.string W' (some ad2) n want → n = want.length → W'.cell? ((ad2.add j).add k) = some (.string x.f1)) := ⟨fun h hn => by
             subst hn
             obtain ⟨a9, e9, h9⟩ := Kd.yU h ((j + k : Nat) : Int) (by omega) (by omega)
             cases e9
             simp only [Int.toNat_natCast] at h9
             rw [Go.Deep.add_add]
             have e8 : UN ByteArray.empty want ((j + k : Nat) : Int) = x.f1 := by simp only [UN, Int.toNat_natCast, List.getD, hwk, Option.getD_some]
             rw [e8] at h9
             exact h9⟩
            have hk2 : (k : Int) < (Q3.es.length : Int) := by omega
            have hk0 : (0 : Int) ≤ (k : Int) := by omega
            have hkw : (k : Int) < ((want.length - j : Nat) : Int) := by omega
            have hw4 : wrap64 ((k : Int) + 1) = ((k + 1 : Nat) : Int) := by
             have := HEL.out
             unfold wrap64
             omega
            clear hx hwk
            go_upto_region 33 with (first
 |((with_reducible refine aV (N := 28) rfl ?_);
   refine bP rfl H (cs := [.int .u64 0, .string ⟨#[]⟩, .bool false]) (t := 41) ?hr ?_;
   (case hr => first | (go_simp; done) | (go_simp; rfl));
   intro gx qhU n_;
   simp only [Act.put, zA, zZ, zS];
   clear H c_p c_q;
   have H := n_;
   clear n_;
   have c_x := H.out.cell (g := gx) aQ;
   have z_x := H.out.frozen (g := gx) aQ;
   have c_p := H.out.cell (g := gp) mem1;
   have c_q := H.out.cell (g := gq) dM)
 |((with_reducible refine aX (t := 41) (p := 28) rfl ?_);
   refine bM (rs1 := [box gx [.int .u64 x.f0, .string x.f1, .bool x.f2] 41, box gp [.slice A7 Q3.L.l.length c7, .bool Q3.L.dn, .int .i64 Q3.L.fu, .int .i64 Q3.L.fa, .int .i64 Q3.L.size, .int .u64 Q3.L.fr, .int .u64 Q3.L.nx, .bool Q3.L.br, .slice (some ⟨gB, 0, none⟩) Q3.es.length d7, .int .i64 Q3.most] 33, row k67 67 (.slice A7 (Q3.L.l).length c7) Q3.L.l, row k41 41 (.slice (some ⟨gB, 0, none⟩) (Q3.es).length d7) Q3.es, box gq [.slice A6 Q3.L.l.length c6, .bool Q3.L.dn, .int .i64 Q3.L.fu, .int .i64 Q3.L.fa, .int .i64 Q3.L.size, .int .u64 Q3.L.fr, .int .u64 Q3.L.nx, .bool Q3.L.br, .slice B6 Q3.es.length d6, .int .i64 Q3.most] 33, row Kd.string 9 (.slice (some ad2) (want).length co) want]) rfl (t := 41) (p := 28) rfl rfl ?hr (H1 := (Sep.set0 (Sep.set0 (Sep.set0 H.out 0 (.int .u64 x.f0) rfl) 1 (.string x.f1) rfl) 2 (.bool x.f2) rfl)) ?_;
   (case hr => first | (go_simp; done) | (go_simp; rfl));
   intro qhV n_;
   clear H c_x z_x c_p c_q;
   have H := n_;
   clear n_;
   have c_x := H.out.cell (g := gx) aQ;
   have z_x := H.out.frozen (g := gx) aQ;
   have c_p := H.out.cell (g := gp) mem1;
   have c_q := H.out.cell (g := gq) dM;
   clear q0 q1 q2)
 |fail)
            have hkk := HK.out (H.out.reads eF).2.2 rfl
            go_quiet (fail)
            go_wp2_with fail
            try rw [hw4]
            exact ⟨⟨k + 1, rfl, by omega, ⟨(Sep.dJ (Sep.drewN H.out _))⟩⟩, by simp [intOf] <;> omega⟩
           ·
            have hke : k = Q3.es.length := by omega
            subst hke
            have hnl : ¬ (Q3.es.length : Int) < (Q3.es.length : Int) := by omega
            clear c_p c_q
            have c_p := H.out.cell (g := gp) aQ
            have c_q := H.out.cell (g := gq) mem3
            have z_q := H.out.frozen (g := gq) mem3
            go_wp2_with (first
 |((with_reducible refine aX (t := 33) (p := 9) rfl ?_);
   refine bM (rs1 := [box gp [.slice A7 Q3.L.l.length c7, .bool Q3.L.dn, .int .i64 Q3.L.fu, .int .i64 Q3.L.fa, .int .i64 Q3.L.size, .int .u64 Q3.L.fr, .int .u64 Q3.L.nx, .bool Q3.L.br, .slice B7 Q3.es.length d7, .int .i64 Q3.most] 33, row k67 67 (.slice A7 (Q3.L.l).length c7) Q3.L.l, row k41 41 (.slice B7 (Q3.es).length d7) Q3.es, box gq [.slice A7 Q3.L.l.length c7, .bool Q3.L.dn, .int .i64 Q3.L.fu, .int .i64 Q3.L.fa, .int .i64 Q3.L.size, .int .u64 Q3.L.fr, .int .u64 Q3.L.nx, .bool Q3.L.br, .slice B7 Q3.es.length d7, .int .i64 Q3.most] 33, row Kd.string 9 (.slice Ao (want).length co) want]) rfl (t := 33) (p := 9) rfl rfl ?hr (H1 := (Sep.eU (Sep.eU (Sep.eU (Sep.eU (Sep.eU (Sep.eU (Sep.eU (Sep.eU (Sep.eU (Sep.eU H.out 0 (.slice A7 Q3.L.l.length c7) rfl) 1 (.bool Q3.L.dn) rfl) 2 (.int .i64 Q3.L.fu) rfl) 3 (.int .i64 Q3.L.fa) rfl) 4 (.int .i64 Q3.L.size) rfl) 5 (.int .u64 Q3.L.fr) rfl) 6 (.int .u64 Q3.L.nx) rfl) 7 (.bool Q3.L.br) rfl) 8 (.slice B7 Q3.es.length d7) rfl) 9 (.int .i64 Q3.most) rfl)) ?_;
   (case hr => first | (go_simp; done) | (go_simp; rfl));
   intro qhW n_;
   clear H c_p c_q z_q;
   have H := n_;
   clear n_;
   have c_p := H.out.cell (g := gp) aQ;
   have c_q := H.out.cell (g := gq) mem3;
   have z_q := H.out.frozen (g := gq) mem3)
 |fail)
            try rw [hw3]
            exact ⟨⟨r + 1, A7, c7, B7, d7, rfl, by omega, ⟨(Sep.jQ (Sep.gY (Sep.gY (Sep.jQ (Sep.dJ H.out)))))⟩⟩, by simp [intOf] <;> omega⟩
         ·
          go_wp2_with fail
          refine ((parse_empty _).mono ?_)
          rintro e qiC ⟨⟨v_, rfl⟩, hb_⟩
          have n_ : aC (Sep w qiC [box gq [.slice A6 Q3.L.l.length c6, .bool Q3.L.dn, .int .i64 Q3.L.fu, .int .i64 Q3.L.fa, .int .i64 Q3.L.size, .int .u64 Q3.L.fr, .int .u64 Q3.L.nx, .bool Q3.L.br, .slice B6 Q3.es.length d6, .int .i64 Q3.most] 33, row k67 67 (.slice A6 (Q3.L.l).length c6) Q3.L.l, row k41 41 (.slice B6 (Q3.es).length d6) Q3.es, row Kd.string 9 (.slice Ao (want).length co) want]) := ⟨H.out.step hb_⟩
          clear H c_q z_q
          have H := n_
          clear n_
          have c_q := H.out.cell (g := gq) aQ
          have z_q := H.out.frozen (g := gq) aQ
          clear hb_
          go_wp2_with fail
          go_ret
          exact ⟨by first | rfl | simp, H.out.below⟩
end Go.Proofs.U
