import Derived.BigRegion
import Derived.LoopN
import Derived.Deep.DeepCutAuto
import Derived.Test.YtanonhipicoigaaGreatDoorZQar
import Derived.Test.YtanonhipicoigaaGreatDoorZQai
import Derived.Test.YtanonhipicoigaaGreatDoorZQao
import Derived.Test.YtanonhipicoigaaGreatDoorZQap
import Derived.Test.YtanonhipicoigaaGreatDoorZQal
import Derived.Test.YtanonhipicoigaaGreatDoorZQag
set_option linter.unusedVariables false
set_option linter.unusedSimpArgs false
namespace Go.Proofs.YtanonhipicoigaaGreatDoor.U
open Go.Proofs.YtanonhipicoigaaGreatDoor.UE (lN sD)
open Go.Proofs.YtanonhipicoigaaGreatDoor
open Go.RowKit Go.Proofs.YW.PrintWords Go.Proofs.YW.PrintLast Go.Proofs.YW.PrintMore Go.Proofs.YtanonhipicoigaaGreatDoor.Sp Go.Proofs.YtanonhipicoigaaGreatDoor.eP
theorem qdW {L : Lg} {k : Nat} : (gQ L k).1.nx = L.nx := by
 unfold gQ
 split <;> rfl
theorem qcs {L R : Lg} {d : ByteArray} (h : bV L d = (R, 0)) : R.nx = L.nx + 1 ∧ L.nx < 4611686018427387904 ∧ R.fr = L.fr := by
 rw [bV] at h
 split at h
 case isFalse => cases h
 rw [jG] at h
 split at h
 ·cases h
 split at h
 ·cases h
 split at h
 ·cases h
 rename_i hm
 split at h
 case isFalse hz => exact absurd (by rw [h]) hz
 rename_i hz
 have hfr : (gQ L (eX L.nx d).size).1.fr = L.fr := by
  unfold gQ
  split <;> rfl
 have hnx := qdW (L := L) (k := (eX L.nx d).size)
 generalize gQ L (eX L.nx d).size = X at h hfr hnx
 unfold pV at h
 split at h
 case isFalse hz1 => exact absurd (by rw [h]) hz1
 split at h
 case isFalse hz2 => exact absurd (by rw [h]) hz2
 obtain ⟨h, _⟩ := Prod.mk.inj h
 rw [← h]
 refine ⟨?_, by omega, hfr⟩
 show X.1.nx + 1 = _
 rw [hnx]
def yS (es : List S41) (nx : Int) : Int := match es with | [] => nx | x :: _ => x.f0
noncomputable def G5 (Q : Qu) (q : Int) : Qu × Int := match lY (iG q) Q.es with
 | none => (Q, 19)
 | some i => if (bV Q.L (kP q)).2 = 0 then
   (⟨(qY (bV Q.L (kP q)).1 (yS (Q.es.eraseIdx i) (bV Q.L (kP q)).1.nx)).1, Q.es.eraseIdx i, Q.most⟩, (qY (bV Q.L (kP q)).1 (yS (Q.es.eraseIdx i) (bV Q.L (kP q)).1.nx)).2)
  else (⟨(bV Q.L (kP q)).1, Q.es, Q.most⟩, (bV Q.L (kP q)).2)
theorem qZ {nx : Int} : ∀ {l : List S41} {least : Int}, 0 ≤ least → rW nx least l → ∀ x ∈ l, 0 ≤ x.f0 ∧ x.f0 < nx
 | [], _, _, _, x, hx => by cases hx
 | y :: r, least, h0, h, x, hx => by
  obtain ⟨_, h2, h3, h4⟩ := h
  rcases List.mem_cons.1 hx with rfl | hx
  ·exact ⟨by omega, h3⟩
  ·exact qZ (by omega) h4 x hx
set_option maxHeartbeats 8000000 in
set_option maxRecDepth 100000 in
theorem qgi (b : World) (Q : Qu) (gs : Nat) (q : Int) (hq0 : 0 ≤ q) (hq1 : q < 18446744073709551616) (hG : Gl b) (hnx : 0 ≤ Q.L.nx) (hnx2 : Q.L.nx < 18446744073709551616) (hfr : 0 ≤ Q.L.fr) (hok : okQ Q) : GZ b 59 [.pointer (some ⟨gs, 0, none⟩)] Q [box gs [.int .u64 q] 28] [box gs [.int .u64 q] 28] (G5 Q q).1 (G5 Q q).2 := by
 intro gl A c B d w ts H0
 have HG := aA.mk hG
 have hel : Q.es.length ≤ 1024 := hok.2.2.2.1
 have HEL := aA.mk hel
 have HES : aA (∀ x ∈ Q.es, 0 ≤ x.f0 ∧ x.f0 < Q.L.nx) := ⟨qZ hfr hok.2.2.2.2⟩
 have HQ0 := aA.mk hq0
 have HQ1 := aA.mk hq1
 obtain ⟨R, hR⟩ : ∃ R, R = G5 Q q := ⟨_, rfl⟩
 rw [← hR]
 have HR := aA.mk hR
 have HAP := aA.mk (fun A c w hr hc hG => PI A c Q.L (kP q) w hr hc hG hnx hnx2)
 obtain ⟨L1, e1, hL1⟩ : ∃ L1 e1, bV Q.L (kP q) = (L1, e1) := ⟨_, _, rfl⟩
 rw [hL1] at HAP
 simp only [lgc] at HAP
 have HL1 := aA.mk hL1
 have HNX := aA.mk hnx
 clear hR hG hL1 hnx hnx2 hel hfr hok hq0 hq1
 have H : aA (Sep b w (box gl [.slice A Q.L.l.length c, .bool Q.L.dn, .int .i64 Q.L.fu, .int .i64 Q.L.fa, .int .i64 Q.L.size, .int .u64 Q.L.fr, .int .u64 Q.L.nx, .bool Q.L.br, .slice B Q.es.length d, .int .i64 Q.most] 101 :: row k67 67 (.slice A (Q.L.l).length c) Q.L.l :: row k41 41 (.slice B (Q.es).length d) Q.es :: box gs [.int .u64 q] 28 :: ts)) := H0
 clear H0
 have c_l := H.out.cell (g := gl) aH
 have c_s := H.out.cell (g := gs) mem3
 go_enter Tryz.func59, Tryz.ntmps59
 go_wp2_with fail
 refine (DJ gl A c B d Q q (rs := box gs [.int .u64 q] 28 :: ts) H).mono ?_
 rintro e wd1 ⟨hE, H4⟩
 have n_ : aA (Sep b wd1 (box gl [.slice A Q.L.l.length c, .bool Q.L.dn, .int .i64 Q.L.fu, .int .i64 Q.L.fa, .int .i64 Q.L.size, .int .u64 Q.L.fr, .int .u64 Q.L.nx, .bool Q.L.br, .slice B Q.es.length d, .int .i64 Q.most] 101 :: row k67 67 (.slice A (Q.L.l).length c) Q.L.l :: row k41 41 (.slice B (Q.es).length d) Q.es :: box gs [.int .u64 q] 28 :: ts)) := ⟨H4.out⟩
 clear H c_l c_s
 have H := n_
 clear n_
 have c_l := H.out.cell (g := gl) aH
 have c_s := H.out.cell (g := gs) mem3
 clear H4
 rcases hE with ⟨i, hix, rfl⟩ | ⟨hix, rfl⟩
 ·
  have hil := VA hix
  have HIX := aA.mk hix
  have hi0 : (0 : Int) ≤ (i : Int) := by omega
  have HIL := aA.mk hil
  clear hix hil
  go_upto_region 1 with fail
  refine gK (n := 12) (S := fun w' => (∀ j : Nat, w'.cell? ⟨gl, j, none⟩ = [.slice A Q.L.l.length c, .bool Q.L.dn, .int .i64 Q.L.fu, .int .i64 Q.L.fa, .int .i64 Q.L.size, .int .u64 Q.L.fr, .int .u64 Q.L.nx, .bool Q.L.br, .slice B Q.es.length d, .int .i64 Q.most][j]?) ∧ (∀ j : Nat, w'.cell? ⟨gs, j, none⟩ = [.int .u64 q][j]?) ∧ Sp.Sep b w' (box gl [.slice A Q.L.l.length c, .bool Q.L.dn, .int .i64 Q.L.fu, .int .i64 Q.L.fa, .int .i64 Q.L.size, .int .u64 Q.L.fr, .int .u64 Q.L.nx, .bool Q.L.br, .slice B Q.es.length d, .int .i64 Q.most] 101 :: row k67 67 (.slice A (Q.L.l).length c) Q.L.l :: row k41 41 (.slice B (Q.es).length d) Q.es :: box gs [.int .u64 q] 28 :: ts)) (ds := [11]) #[false, false, false, false, false, false, false, false, false, false, false, false] (by kernel_rfl) rfl rfl ⟨(fun j => ((Sep.drew H.out)).cell (g := gl) aH j), (fun j => ((Sep.drew H.out)).cell (g := gs) mem3 j), (Sep.drew H.out)⟩ (fun hHeld => ?_)
  refine aQ (i := 0) (N := some 8) (v := ?_) (a' := ?_) #[true, false, false, false, false, false, false, false, false, false, false, false] rfl rfl (by kernel_rfl) (fun _ _ _ h => h) (Or.inl ⟨by rfl, ?_⟩) ?_ ?_
  rotate_left
  ·intro w'
   go_simp
   with_reducible rfl
  rotate_left
  ·simp only [Act.put, zA, zZ, zS, aI, aJ]
   rfl
  refine aQ (i := 1) (N := some 9) (v := ?_) (a' := ?_) #[true, true, false, false, false, false, false, false, false, false, false, false] rfl rfl (by kernel_rfl) (fun _ _ _ h => h) (Or.inl ⟨by rfl, ?_⟩) ?_ ?_
  rotate_left
  ·intro w'
   go_simp
   with_reducible rfl
  rotate_left
  ·simp only [Act.put, zA, zZ, zS, aI, aJ]
   rfl
  refine aQ (i := 2) (N := some 10) (v := ?_) (a' := ?_) #[true, true, true, false, false, false, false, false, false, false, false, false] rfl rfl (by kernel_rfl) (fun _ _ _ h => h) (Or.inl ⟨by rfl, ?_⟩) ?_ ?_
  rotate_left
  ·intro w'
   go_simp
   with_reducible rfl
  rotate_left
  ·simp only [Act.put, zA, zZ, zS, aI, aJ]
   rfl
  refine aQ (i := 3) (N := some 11) (v := ?_) (a' := ?_) #[true, true, true, true, false, false, false, false, false, false, false, false] rfl rfl (by kernel_rfl) (fun _ _ _ h => h) (Or.inl ⟨by rfl, ?_⟩) ?_ ?_
  rotate_left
  ·intro w'
   go_simp
   with_reducible rfl
  rotate_left
  ·simp only [Act.put, zA, zZ, zS, aI, aJ]
   rfl
  refine aQ (i := 4) (N := some 12) (v := ?_) (a' := ?_) #[true, true, true, true, true, false, false, false, false, false, false, false] rfl rfl (by kernel_rfl) (fun _ _ _ h => h) (Or.inl ⟨by rfl, ?_⟩) ?_ ?_
  rotate_left
  ·intro w'
   go_simp
   with_reducible rfl
  rotate_left
  ·simp only [Act.put, zA, zZ, zS, aI, aJ]
   rfl
  refine dD (i := 5) (N := some 13) (v := ?_) (a' := ?_) #[true, true, true, true, true, true, false, false, false, false, false, false] rfl rfl (by kernel_rfl) (fun _ _ _ h => h) (Or.inl ⟨by rfl, ?_⟩) hHeld ?_ ?_
  rotate_left
  ·rintro w' ⟨s0, s1, s2⟩
   go_simp
   with_reducible rfl
  rotate_left
  ·simp only [Act.put, zA, zZ, zS, aI, aJ]
   rfl
  refine dD (i := 6) (N := some 14) (v := ?_) (a' := ?_) #[true, true, true, true, true, true, true, false, false, false, false, false] rfl rfl (by kernel_rfl) (fun _ _ _ h => h) (Or.inl ⟨by rfl, ?_⟩) hHeld ?_ ?_
  rotate_left
  ·rintro w' ⟨s0, s1, s2⟩
   go_simp
   with_reducible rfl
  rotate_left
  ·simp only [Act.put, zA, zZ, zS, aI, aJ]
   rfl
  refine lX (i := 7) (N := some 15) #[true, true, true, true, true, true, true, true, false, false, false, false] rfl rfl (by kernel_rfl) (by decide) (fun K hK => ?_)
  refine qM Tryz.func61 (by kernel_rfl) rfl #[.int .u64 q] (by rfl) rfl rfl (by simp only [List.map_toArray, List.map_cons, List.map_nil]; rfl) ?_
  with_reducible refine (qcq q _ HQ0.out HQ1.out).mono ?_
  rintro e w5 ⟨rfl, hb5⟩
  refine ⟨_, rfl, ?_⟩
  refine hK.out _ _ ⟨(fun j => ((Sep.step hHeld.2.2 hb5)).cell (g := gl) aH j), (fun j => ((Sep.step hHeld.2.2 hb5)).cell (g := gs) mem3 j), (Sep.step hHeld.2.2 hb5)⟩ (fun hHeld => ?_)
  clear hK K
  refine fO (a' := ?_) ?_ ?_
  rotate_left
  ·show Act.put _ (some 15) _ = _
   simp only [Act.put, zA, zZ, zS, aI, aJ]
   rfl
  refine lX (i := 8) (N := some 16) #[true, true, true, true, true, true, true, true, true, false, false, false] rfl rfl (by kernel_rfl) (by decide) (fun K hK => ?_)
  refine qM Tryz.func31 (by kernel_rfl) rfl #[.agg #[.slice A Q.L.l.length c, .bool Q.L.dn, .int .i64 Q.L.fu, .int .i64 Q.L.fa, .int .i64 Q.L.size, .int .u64 Q.L.fr, .int .u64 Q.L.nx, .bool Q.L.br], .string (kP q)] (by rfl) rfl rfl (by simp only [List.map_toArray, List.map_cons, List.map_nil]; rfl) ?_
  with_reducible refine (HAP.out A c _ (Sep.reads hHeld.2.2 mem1).2.2 (Sep.reads hHeld.2.2 mem1).2.1 (HG.out.below (Sep.below hHeld.2.2))).mono ?_
  rintro e w6 ⟨A5, c5, rfl, HJ⟩
  try simp only [lgc]
  have HN := dI hHeld.2.2 HJ.out
  refine ⟨_, rfl, ?_⟩
  refine hK.out _ _ ⟨(fun j => (HN).cell (g := gl) mem1 j), (fun j => (HN).cell (g := gs) bM j), (HN).dW⟩ (fun hHeld => ?_)
  clear hK K
  refine fO (a' := ?_) ?_ ?_
  rotate_left
  ·show Act.put _ (some 16) _ = _
   simp only [Act.put, zA, zZ, zS, aI, aJ]
   rfl
  refine aQ (i := 9) (N := some 17) (v := ?_) (a' := ?_) #[true, true, true, true, true, true, true, true, true, true, false, false] rfl rfl (by kernel_rfl) (fun _ _ _ h => h) (Or.inl ⟨by rfl, ?_⟩) ?_ ?_
  rotate_left
  ·intro w'
   go_simp
   with_reducible rfl
  rotate_left
  ·simp only [Act.put, zA, zZ, zS, aI, aJ]
   rfl
  refine aQ (i := 10) (N := some 18) (v := ?_) (a' := ?_) #[true, true, true, true, true, true, true, true, true, true, true, false] rfl rfl (by kernel_rfl) (fun _ _ _ h => h) (Or.inl ⟨by rfl, ?_⟩) ?_ ?_
  rotate_left
  ·intro w'
   go_simp
   with_reducible rfl
  rotate_left
  ·simp only [Act.put, zA, zZ, zS, aI, aJ]
   rfl
  refine o7 (i := 11) (N := some 19) #[true, true, true, true, true, true, true, true, true, true, true, true] rfl rfl (by kernel_rfl) (by decide) (fun K hK => ?_)
  refine sS Tryz.func55 (by kernel_rfl) rfl #[.pointer (some ⟨gl, 0, none⟩), .agg #[.slice A5 L1.l.length c5, .bool L1.dn, .int .i64 L1.fu, .int .i64 L1.fa, .int .i64 L1.size, .int .u64 L1.fr, .int .u64 L1.nx, .bool L1.br], .int .i64 e1] (by rfl) rfl rfl (by simp only [List.map_toArray, List.map_cons, List.map_nil]; rfl) ?_
  refine (log_any gl A c B d Q A5 c5 L1 e1 (rs := oK A5 c5 L1.l :: row k67 67 (.slice A (Q.L.l).length c) Q.L.l :: row k41 41 (.slice B (Q.es).length d) Q.es :: box gs [.int .u64 q] 28 :: ts) ⟨HN.iE⟩).mono ?_
  rintro e w7 ⟨hE, H4⟩
  rcases hE with ⟨hz, rfl⟩ | ⟨hnz, rfl⟩
  rotate_left
  ·refine .inr ⟨_, rfl, ?_⟩
   have hV : R = (⟨L1, Q.es, Q.most⟩, e1) := by rw [HR.out, G5, HIX.out]; simp only [HL1.out]; rw [if_neg hnz]
   show _ ∧ _
   rw [hV]
   exact ⟨rfl, .inr ⟨hnz, rfl⟩, A5, c5, B, d, ⟨H4.out.drop2⟩⟩
  refine .inl ⟨_, rfl, ?_⟩
  refine hK.out _ _ ?_
  clear hK K
  refine fO (a' := ?_) ?_ ?_
  rotate_left
  ·show Act.put _ (some 19) _ = _
   simp only [Act.put, zA, zZ, zS, aI, aJ]
   rfl
  refine jR (by kernel_rfl) ?_
  have n_ : aA (Sep b w7 (box gl [.slice A5 L1.l.length c5, .bool L1.dn, .int .i64 L1.fu, .int .i64 L1.fa, .int .i64 L1.size, .int .u64 L1.fr, .int .u64 L1.nx, .bool L1.br, .slice B Q.es.length d, .int .i64 Q.most] 101 :: row k67 67 (.slice A5 (L1.l).length c5) L1.l :: row k41 41 (.slice B (Q.es).length d) Q.es :: box gs [.int .u64 q] 28 :: ts)) := ⟨H4.out.drop2⟩
  clear H4 HN HJ hHeld
  clear H c_l c_s
  have H := n_
  clear n_
  have c_l := H.out.cell (g := gl) aH
  have z_l := H.out.frozen (g := gl) aH
  have c_s := H.out.cell (g := gs) mem3
  subst hz
  obtain ⟨gp, hgp⟩ := pI (B := B) (d := d) (es := Q.es) H.out mem2 (by have := HIL.out; omega)
  subst hgp
  have hi1 : wrap64 ((i : Int) + 1) = (i : Int) + 1 := by
   have h1 := HIL.out
   have h2 := HEL.out
   unfold wrap64
   omega
  go_wp2_with fail
  try rw [hi1]
  refine (sD (i := i) HIL.out HEL.out ⟨H.out.gV⟩).mono ?_
  rintro e wd2 ⟨rfl, H4⟩
  obtain ⟨es2, hes2⟩ : ∃ es2, es2 = Q.es.eraseIdx i := ⟨_, rfl⟩
  rw [← hes2] at H4 ⊢
  have HE2 := aA.mk hes2
  have HS2 : aA (∀ x ∈ es2, 0 ≤ x.f0 ∧ x.f0 < Q.L.nx) := ⟨fun x hx => HES.out x (by rw [hes2] at hx; exact List.mem_of_mem_eraseIdx hx)⟩
  have HN1 := aA.mk (qcs HL1.out)
  clear hes2
  have n_ : aA (Sep b wd2 (row k41 41 (.slice (some ⟨gp, 0, none⟩) (es2).length d) es2 :: box gl [.slice A5 L1.l.length c5, .bool L1.dn, .int .i64 L1.fu, .int .i64 L1.fa, .int .i64 L1.size, .int .u64 L1.fr, .int .u64 L1.nx, .bool L1.br, .slice (some ⟨gp, 0, none⟩) Q.es.length d, .int .i64 Q.most] 101 :: row k67 67 (.slice A5 (L1.l).length c5) L1.l :: box gs [.int .u64 q] 28 :: ts)) := ⟨H4.out⟩
  clear H c_l z_l c_s
  have H := n_
  clear n_
  have c_l := H.out.cell (g := gl) mem1
  have z_l := H.out.frozen (g := gl) mem1
  have c_s := H.out.cell (g := gs) mem3
  clear H4
  cases hes : es2 with
  | nil =>
   rw [hes] at H HE2 HS2
   clear hes
   have hf0 : 0 ≤ L1.nx := by have h1 := HN1.out; have h2 := HNX.out; omega
   have HDR := aA.mk (fun A c w hr hc hG => XG A c L1 L1.nx hf0 w hr hc hG (by have h1 := HN1.out; have h2 := HNX.out; omega) (by have h1 := HN1.out; omega))
   obtain ⟨L2, e2, hL2⟩ : ∃ L2 e2, qY L1 L1.nx = (L2, e2) := ⟨_, _, rfl⟩
   rw [hL2] at HDR
   have hRV : R = (⟨L2, [], Q.most⟩, e2) := by
    rw [HR.out, G5, HIX.out]
    simp only [HL1.out, ← HE2.out, yS, if_true, hL2]
   have HRV := aA.mk hRV
   clear hRV hL2 hf0
   go_wp2_with (first
 |((with_reducible refine aK (t := 31) (p := 32) rfl ?_);
   refine aV (rs1 := (row k41 41 (.slice (some ⟨gp, 0, none⟩) ([]).length d) ([]) :: box gl [.slice A5 L1.l.length c5, .bool L1.dn, .int .i64 L1.fu, .int .i64 L1.fa, .int .i64 L1.size, .int .u64 L1.fr, .int .u64 L1.nx, .bool L1.br, .slice (some ⟨gp, 0, none⟩) 0 d, .int .i64 Q.most] 101 :: row k67 67 (.slice A5 (L1.l).length c5) L1.l :: box gs [.int .u64 q] 28 :: ts)) rfl (t := 31) (p := 32) rfl rfl ?hr (H1 := (Sep.set1 H.out 8 (.slice (some ⟨gp, 0, none⟩) 0 d) rfl)) ?_;
   (case hr => first | (go_simp; done) | (go_simp; rfl));
   intro wd3 n_;
   clear H c_l z_l c_s;
   have H := n_;
   clear n_;
   have c_l := H.out.cell (g := gl) mem1;
   have z_l := H.out.frozen (g := gl) mem1;
   have c_s := H.out.cell (g := gs) mem3)
 |fail)
   refine ((HDR.out A5 c5 _ (H.out.reads mem2).2.2 (H.out.reads mem2).2.1 (HG.out.below H.out.below)).mono ?_)
   rintro e wd4 ⟨A6, c6, rfl, HJ⟩
   have n_ : aA (Sep b wd4 (row k67 67 (.slice A6 (L2.l).length c6) L2.l :: row k41 41 (.slice (some ⟨gp, 0, none⟩) ([]).length d) ([]) :: box gl [.slice A5 L1.l.length c5, .bool L1.dn, .int .i64 L1.fu, .int .i64 L1.fa, .int .i64 L1.size, .int .u64 L1.fr, .int .u64 L1.nx, .bool L1.br, .slice (some ⟨gp, 0, none⟩) 0 d, .int .i64 Q.most] 101 :: row k67 67 (.slice A5 (L1.l).length c5) L1.l :: box gs [.int .u64 q] 28 :: ts)) := ⟨dI H.out HJ.out⟩
   clear H c_l z_l c_s
   have H := n_
   clear n_
   have c_l := H.out.cell (g := gl) mem2
   have z_l := H.out.frozen (g := gl) mem2
   have c_s := H.out.cell (g := gs) bM
   clear HJ
   simp only [lgc]
   clear HDR
   go_wp2_with fail
   refine (log_any gl A5 c5 (some ⟨gp, 0, none⟩) d ⟨L1, [], Q.most⟩ A6 c6 L2 e2 (rs := row k67 67 (.slice A6 (L2.l).length c6) L2.l :: row k41 41 (.slice (some ⟨gp, 0, none⟩) ([]).length d) ([]) :: row k67 67 (.slice A5 (L1.l).length c5) L1.l :: box gs [.int .u64 q] 28 :: ts) ⟨(Sep.jA (Sep.kF (Sep.kF (Sep.jA (Sep.jA H.out)))))⟩).mono ?_
   rintro e wd5 ⟨hE, H4⟩
   rcases hE with ⟨hz, rfl⟩ | ⟨hnz, rfl⟩
   ·
    subst hz
    go_wp2_with fail
    go_end0
    rw [HRV.out]
    exact ⟨.inl ⟨rfl, rfl⟩, A6, c6, (some ⟨gp, 0, none⟩), d, ⟨(Sep.iZ H4.out)⟩⟩
   ·
    try go_wp2_with fail
    show _ ∧ _
    rw [HRV.out]
    exact ⟨rfl, .inr ⟨hnz, rfl⟩, A6, c6, (some ⟨gp, 0, none⟩), d, ⟨(Sep.iZ H4.out)⟩⟩
  | cons x0 r0 =>
   rw [hes] at H HE2 HS2
   clear hes
   have hf0 : 0 ≤ x0.f0 := (HS2.out x0 (List.mem_cons_self ..)).1
   have HDR := aA.mk (fun A c w hr hc hG => XG A c L1 x0.f0 hf0 w hr hc hG (by have h1 := HN1.out; have h2 := HNX.out; omega) (by have h1 := HN1.out; omega))
   obtain ⟨L2, e2, hL2⟩ : ∃ L2 e2, qY L1 x0.f0 = (L2, e2) := ⟨_, _, rfl⟩
   rw [hL2] at HDR
   have hRV : R = (⟨L2, x0 :: r0, Q.most⟩, e2) := by
    rw [HR.out, G5, HIX.out]
    simp only [HL1.out, ← HE2.out, yS, if_true, hL2]
   have HRV := aA.mk hRV
   clear hRV hL2 hf0
   obtain ⟨k0, k1, k2, -⟩ := pX (gp := gp) (d := d) (i := 0) (x := x0) H.out aH rfl
   simp only [Nat.zero_mul, Nat.zero_add] at k0 k1 k2
   clear k1 k2
   go_wp2_with (first
 |((with_reducible refine aK (t := 31) (p := 32) rfl ?_);
   refine aV (rs1 := (row k41 41 (.slice (some ⟨gp, 0, none⟩) ((x0 :: r0)).length d) ((x0 :: r0)) :: box gl [.slice A5 L1.l.length c5, .bool L1.dn, .int .i64 L1.fu, .int .i64 L1.fa, .int .i64 L1.size, .int .u64 L1.fr, .int .u64 L1.nx, .bool L1.br, .slice (some ⟨gp, 0, none⟩) (x0 :: r0).length d, .int .i64 Q.most] 101 :: row k67 67 (.slice A5 (L1.l).length c5) L1.l :: box gs [.int .u64 q] 28 :: ts)) rfl (t := 31) (p := 32) rfl rfl ?hr (H1 := (Sep.set1 H.out 8 (.slice (some ⟨gp, 0, none⟩) (x0 :: r0).length d) rfl)) ?_;
   (case hr => first | (go_simp; done) | (go_simp; rfl));
   intro wd6 n_;
   clear H c_l z_l c_s;
   have H := n_;
   clear n_;
   have c_l := H.out.cell (g := gl) mem1;
   have z_l := H.out.frozen (g := gl) mem1;
   have c_s := H.out.cell (g := gs) mem3;
   obtain ⟨m0, _, _, _⟩ := pX (gp := gp) (d := d) (i := 0) (x := x0) H.out aH rfl;
   simp only [Nat.zero_mul] at m0;
   clear k0)
 |fail)
   refine ((HDR.out A5 c5 _ (H.out.reads mem2).2.2 (H.out.reads mem2).2.1 (HG.out.below H.out.below)).mono ?_)
   rintro e wd7 ⟨A6, c6, rfl, HJ⟩
   have n_ : aA (Sep b wd7 (row k67 67 (.slice A6 (L2.l).length c6) L2.l :: row k41 41 (.slice (some ⟨gp, 0, none⟩) ((x0 :: r0)).length d) ((x0 :: r0)) :: box gl [.slice A5 L1.l.length c5, .bool L1.dn, .int .i64 L1.fu, .int .i64 L1.fa, .int .i64 L1.size, .int .u64 L1.fr, .int .u64 L1.nx, .bool L1.br, .slice (some ⟨gp, 0, none⟩) (x0 :: r0).length d, .int .i64 Q.most] 101 :: row k67 67 (.slice A5 (L1.l).length c5) L1.l :: box gs [.int .u64 q] 28 :: ts)) := ⟨dI H.out HJ.out⟩
   clear H c_l z_l c_s
   have H := n_
   clear n_
   have c_l := H.out.cell (g := gl) mem2
   have z_l := H.out.frozen (g := gl) mem2
   have c_s := H.out.cell (g := gs) bM
   clear HJ
   simp only [lgc]
   clear HDR
   go_wp2_with fail
   refine (log_any gl A5 c5 (some ⟨gp, 0, none⟩) d ⟨L1, (x0 :: r0), Q.most⟩ A6 c6 L2 e2 (rs := row k67 67 (.slice A6 (L2.l).length c6) L2.l :: row k41 41 (.slice (some ⟨gp, 0, none⟩) ((x0 :: r0)).length d) ((x0 :: r0)) :: row k67 67 (.slice A5 (L1.l).length c5) L1.l :: box gs [.int .u64 q] 28 :: ts) ⟨(Sep.jA (Sep.kF (Sep.kF (Sep.jA (Sep.jA H.out)))))⟩).mono ?_
   rintro e wd8 ⟨hE, H4⟩
   rcases hE with ⟨hz, rfl⟩ | ⟨hnz, rfl⟩
   ·
    subst hz
    go_wp2_with fail
    go_end0
    rw [HRV.out]
    exact ⟨.inl ⟨rfl, rfl⟩, A6, c6, (some ⟨gp, 0, none⟩), d, ⟨(Sep.iZ H4.out)⟩⟩
   ·
    try go_wp2_with fail
    show _ ∧ _
    rw [HRV.out]
    exact ⟨rfl, .inr ⟨hnz, rfl⟩, A6, c6, (some ⟨gp, 0, none⟩), d, ⟨(Sep.iZ H4.out)⟩⟩
 ·
  try go_wp2_with fail
  have hV : R = (Q, 19) := by rw [HR.out, G5, hix]
  show _ ∧ _
  rw [hV]
  exact ⟨rfl, .inr ⟨show (19 : Int) ≠ 0 by decide, rfl⟩, A, c, B, d, H⟩
end Go.Proofs.YtanonhipicoigaaGreatDoor.U
namespace Go.Proofs.YtanonhipicoigaaGreatDoor.U
open Go.RowKit Go.Proofs.YW.PrintWords Go.Proofs.YW.PrintLast Go.Proofs.YW.PrintMore Go.Proofs.YtanonhipicoigaaGreatDoor.Sp Go.Proofs.YtanonhipicoigaaGreatDoor.eP
open Classical in
noncomputable def lW (Q : Qu) (D : Qu × Int) : Qu × Int := if okQ Q then (if Q.L.br = true then (Q, 6) else D) else (Qz, 6)
noncomputable def rE (Q : Qu) (data : ByteArray) : Qu × Int := lW Q (J9 Q Q.L.nx data)
noncomputable def QU (Q : Qu) (data : ByteArray) : Int := if (rE Q data).2 = 0 then Q.L.nx else 0
noncomputable def gU (Q : Qu) : Qu × Int := lW Q (qI Q)
open Classical in
noncomputable def iI (Q : Qu) : S41 := if okQ Q ∧ Q.L.br = false then uN Q else z41
noncomputable def sZ (Q : Qu) (q : Int) : Qu × Int := lW Q (pW Q q)
noncomputable def rX (Q : Qu) (q : Int) : Qu × Int := lW Q (G5 Q q)
theorem wB {b w : World} {rs rs' rs2 : List Res} {fdo : Nat} {lb : List Value} (A : Option Addr) (c : Nat) (B : Option Addr) (d : Nat) (Q : Qu) (D : Qu × Int) (hr : Kd.C k67 b A Q.L.l.length Q.L.l) (hc : Q.L.l.length ≤ c) (hre : Kd.C k41 b B Q.es.length Q.es) (hce : Q.es.length ≤ d) (h0 : 0 ≤ Q.L.fr)
  (he : ∀ args w, (callFunc fdo args).run Tryz.prog w = .ok (.enter fdo args) w) (H0 : aA (Sep b w rs)) (hdo : okQ Q → Q.L.br = false → GZ b fdo lb Q rs rs' D.1 D.2) (h1 : okQ Q → Q.L.br = false → rs2 = rs') (h2 : ¬ (okQ Q ∧ Q.L.br = false) → rs2 = rs) :
  Calls Tryz.prog 52 #[.agg (qc A c B d Q).toArray, .func (.func fdo) #[] lb.toArray] w fun e w' => ∃ A' c' B' d', e = .returned (.tuple #[.agg (qc A' c' B' d' (lW Q D).1).toArray, .int .i64 (lW Q D).2]) ∧ aA (Sep b w' (oK A' c' (lW Q D).1.L.l :: sV B' d' (lW Q D).1.es :: rs2)) := by
 by_cases hok : okQ Q
 ·cases hbr : Q.L.br
  ·have e : lW Q D = D := by rw [lW, if_pos hok, hbr, if_neg (by simp)]
   rw [e, h1 hok hbr]
   exact vZ A c B d Q D.1 D.2 hr hc hre hce h0 he H0 (.inr (.inr ⟨hok, hbr, hdo hok hbr⟩))
  ·have e : lW Q D = (Q, 6) := by rw [lW, if_pos hok, hbr, if_pos rfl]
   rw [e, h2 (fun h => by rw [hbr] at h; cases h.2)]
   exact vZ A c B d Q Q 6 hr hc hre hce h0 he H0 (.inr (.inl ⟨hok, hbr, rfl, rfl, rfl⟩))
 ·have e : lW Q D = (Qz, 6) := by rw [lW, if_neg hok]
  rw [e, h2 (fun h => hok h.1)]
  exact vZ A c B d Q Qz 6 hr hc hre hce h0 he H0 (.inl ⟨hok, rfl, rfl, rfl⟩)
set_option maxHeartbeats 8000000 in
set_option maxRecDepth 100000 in
theorem put_any (A : Option Addr) (c : Nat) (B : Option Addr) (d : Nat) (Q : Qu) (data : ByteArray) (w : World) (hr : Kd.C k67 w A Q.L.l.length Q.L.l) (hc : Q.L.l.length ≤ c) (hre : Kd.C k41 w B Q.es.length Q.es) (hce : Q.es.length ≤ d) (hG : Gl w) (h0 : 0 ≤ Q.L.fr) (hnx : 0 ≤ Q.L.nx) (hnx2 : Q.L.nx < 18446744073709551616) :
  Calls Tryz.prog 20 #[.agg (qc A c B d Q).toArray, .string data] w fun e w' => ∃ A' c' B' d', e = .returned (.tuple #[.agg (qc A' c' B' d' (rE Q data).1).toArray, .int .u64 (QU Q data), .int .i64 (rE Q data).2]) ∧ aA (Sep w w' [oK A' c' (rE Q data).1.L.l, sV B' d' (rE Q data).1.es]) := by
 have HRp := aA.mk hr
 have HCp := aA.mk hc
 have HRe := aA.mk hre
 have HCe := aA.mk hce
 have HG := aA.mk hG
 have HF := aA.mk h0
 have HN0 := aA.mk hnx
 have HN1 := aA.mk hnx2
 clear hr hc hre hce hG h0 hnx hnx2
 simp only [qc, lgc, List.cons_append, List.nil_append]
 obtain ⟨Z, hZ⟩ : ∃ Z, Z = (rE Q data) := ⟨_, rfl⟩
 rw [← hZ]
 have HZ := aA.mk hZ
 clear hZ
 obtain ⟨S, hS⟩ : ∃ S, S = QU Q data := ⟨_, rfl⟩
 rw [← hS]
 have HS := aA.mk hS
 clear hS
 have H := aA.mk (Sep.start w)
 go_enter Tryz.func20, Tryz.ntmps20
 go_wp2_with (first
 |((with_reducible refine aN (N := 2) rfl ?_);
   refine aX rfl H (cs := [.slice A Q.L.l.length c, .bool Q.L.dn, .int .i64 Q.L.fu, .int .i64 Q.L.fa, .int .i64 Q.L.size, .int .u64 Q.L.fr, .int .u64 Q.L.nx, .bool Q.L.br, .slice B Q.es.length d, .int .i64 Q.most]) (t := 33) ?hr ?_;
   (case hr => first | (go_simp; done) | (go_simp; rfl));
   intro gq wd1 n_;
   simp only [Act.put, zA, zZ, zS];
   clear H;
   have H := n_;
   clear n_;
   have c_q := H.out.cell (g := gq) aH;
   have z_q := H.out.frozen (g := gq) aH)
 |((with_reducible refine aN (N := 3) rfl ?_);
   refine aX rfl H (cs := [.string data]) (t := 9) ?hr ?_;
   (case hr => first | (go_simp; done) | (go_simp; rfl));
   intro gt wd2 n_;
   simp only [Act.put, zA, zZ, zS];
   clear H c_q z_q;
   have H := n_;
   clear n_;
   have c_t := H.out.cell (g := gt) aH;
   have c_q := H.out.cell (g := gq) mem1;
   have z_q := H.out.frozen (g := gq) mem1)
 |((with_reducible refine aN (N := 4) rfl ?_);
   refine aX rfl H (cs := [.slice none 0 0, .bool false, .int .i64 0, .int .i64 0, .int .i64 0, .int .u64 0, .int .u64 0, .bool false, .slice none 0 0, .int .i64 0]) (t := 33) ?hr ?_;
   (case hr => first | (go_simp; done) | (go_simp; rfl));
   intro gz wd3 n_;
   simp only [Act.put, zA, zZ, zS];
   clear H c_t c_q z_q;
   have H := n_;
   clear n_;
   have c_z := H.out.cell (g := gz) aH;
   have z_z := H.out.frozen (g := gz) aH;
   have c_t := H.out.cell (g := gt) mem1;
   have c_q := H.out.cell (g := gq) mem2;
   have z_q := H.out.frozen (g := gq) mem2)
 |((with_reducible refine aN (N := 7) rfl ?_);
   refine aX rfl H (cs := [.int .u64 0]) (t := 28) ?hr ?_;
   (case hr => first | (go_simp; done) | (go_simp; rfl));
   intro gs wd4 n_;
   simp only [Act.put, zA, zZ, zS];
   clear H c_z z_z c_t c_q z_q;
   have H := n_;
   clear n_;
   have c_s := H.out.cell (g := gs) aH;
   have z_s := H.out.frozen (g := gs) aH;
   have c_z := H.out.cell (g := gz) mem1;
   have z_z := H.out.frozen (g := gz) mem1;
   have c_t := H.out.cell (g := gt) mem2;
   have c_q := H.out.cell (g := gq) mem3;
   have z_q := H.out.frozen (g := gq) mem3)
 |((with_reducible refine aK (t := 28) (p := 7) rfl ?_);
   refine aV (rs1 := [box gs [.int .u64 Q.L.nx] 28, box gz [.slice none 0 0, .bool false, .int .i64 0, .int .i64 0, .int .i64 0, .int .u64 0, .int .u64 0, .bool false, .slice none 0 0, .int .i64 0] 33, box gt [.string data] 9, box gq [.slice A Q.L.l.length c, .bool Q.L.dn, .int .i64 Q.L.fu, .int .i64 Q.L.fa, .int .i64 Q.L.size, .int .u64 Q.L.fr, .int .u64 Q.L.nx, .bool Q.L.br, .slice B Q.es.length d, .int .i64 Q.most] 33]) rfl (t := 28) (p := 7) rfl rfl ?hr (H1 := (Sep.set0 H.out 0 (.int .u64 Q.L.nx) rfl)) ?_;
   (case hr => first | (go_simp; done) | (go_simp; rfl));
   intro wd5 n_;
   clear H c_s z_s c_z z_z c_t c_q z_q;
   have H := n_;
   clear n_;
   have c_s := H.out.cell (g := gs) aH;
   have z_s := H.out.frozen (g := gs) aH;
   have c_z := H.out.cell (g := gz) mem1;
   have z_z := H.out.frozen (g := gz) mem1;
   have c_t := H.out.cell (g := gt) mem2;
   have c_q := H.out.cell (g := gq) mem3;
   have z_q := H.out.frozen (g := gq) mem3)
 |fail)
 obtain ⟨D, hD⟩ : ∃ D, D = lW Q (J9 Q Q.L.nx data) := ⟨_, rfl⟩
 have HD := aA.mk hD
 refine (wB (fdo := 53) (lb := [.pointer (some ⟨gt, 0, none⟩), .pointer (some ⟨gs, 0, none⟩)]) (rs := [box gt [.string data] 9, box gs [.int .u64 Q.L.nx] 28, box gq [.slice A Q.L.l.length c, .bool Q.L.dn, .int .i64 Q.L.fu, .int .i64 Q.L.fa, .int .i64 Q.L.size, .int .u64 Q.L.fr, .int .u64 Q.L.nx, .bool Q.L.br, .slice B Q.es.length d, .int .i64 Q.most] 33, box gz [.slice none 0 0, .bool false, .int .i64 0, .int .i64 0, .int .i64 0, .int .u64 0, .int .u64 0, .bool false, .slice none 0 0, .int .i64 0] 33]) (rs2 := [box gt [.string data] 9, box gs [.int .u64 Q.L.nx] 28, box gq [.slice A Q.L.l.length c, .bool Q.L.dn, .int .i64 Q.L.fu, .int .i64 Q.L.fa, .int .i64 Q.L.size, .int .u64 Q.L.fr, .int .u64 Q.L.nx, .bool Q.L.br, .slice B Q.es.length d, .int .i64 Q.most] 33, box gz [.slice none 0 0, .bool false, .int .i64 0, .int .i64 0, .int .i64 0, .int .u64 0, .int .u64 0, .bool false, .slice none 0 0, .int .i64 0] 33]) A c B d Q (J9 Q Q.L.nx data) HRp.out HCp.out HRe.out HCe.out HF.out (fun args w => by simp [go_sem]) ⟨(Sep.kF (Sep.gV (Sep.kF (Sep.iE H.out))))⟩ (fun hok hbr => tY (qgh w Q gt gs Q.L.nx data HG.out HN0.out HN1.out hok.2.2.2.1) [box gq [.slice A Q.L.l.length c, .bool Q.L.dn, .int .i64 Q.L.fu, .int .i64 Q.L.fa, .int .i64 Q.L.size, .int .u64 Q.L.fr, .int .u64 Q.L.nx, .bool Q.L.br, .slice B Q.es.length d, .int .i64 Q.most] 33, box gz [.slice none 0 0, .bool false, .int .i64 0, .int .i64 0, .int .i64 0, .int .u64 0, .int .u64 0, .bool false, .slice none 0 0, .int .i64 0] 33]) (fun _ _ => rfl) (fun _ => rfl)).mono ?_
 rw [← hD]
 rintro e wd6 ⟨A1, c1, B1, d1, rfl, H2⟩
 clear hD
 simp only [qc, lgc, List.cons_append, List.nil_append]
 have n_ : aA (Sep w wd6 [row k67 67 (.slice A1 (D.1.L.l).length c1) D.1.L.l, row k41 41 (.slice B1 (D.1.es).length d1) D.1.es, box gt [.string data] 9, box gs [.int .u64 Q.L.nx] 28, box gq [.slice A Q.L.l.length c, .bool Q.L.dn, .int .i64 Q.L.fu, .int .i64 Q.L.fa, .int .i64 Q.L.size, .int .u64 Q.L.fr, .int .u64 Q.L.nx, .bool Q.L.br, .slice B Q.es.length d, .int .i64 Q.most] 33, box gz [.slice none 0 0, .bool false, .int .i64 0, .int .i64 0, .int .i64 0, .int .u64 0, .int .u64 0, .bool false, .slice none 0 0, .int .i64 0] 33]) := ⟨H2.out⟩
 clear H c_s z_s c_z z_z c_t c_q z_q
 have H := n_
 clear n_
 have c_t := H.out.cell (g := gt) mem2
 have c_s := H.out.cell (g := gs) mem3
 have z_s := H.out.frozen (g := gs) mem3
 have c_q := H.out.cell (g := gq) bM
 have z_q := H.out.frozen (g := gq) bM
 have c_z := H.out.cell (g := gz) dM
 have z_z := H.out.frozen (g := gz) dM
 clear H2
 have hSD : S = if D.2 = 0 then Q.L.nx else 0 := by rw [HS.out, QU, show rE Q data = D from HD.out.symm]
 have hZD : D = Z := HD.out.trans HZ.out.symm
 subst hZD
 have HSD := aA.mk hSD
 clear hSD HD
 by_cases hz : D.2 = 0
 ·
  go_upto_region 5 with (first
 |((with_reducible refine aK (t := 33) (p := 2) rfl ?_);
   refine aV (rs1 := [row k67 67 (.slice A1 (D.1.L.l).length c1) D.1.L.l, row k41 41 (.slice B1 (D.1.es).length d1) D.1.es, box gt [.string data] 9, box gs [.int .u64 Q.L.nx] 28, box gq [.slice A1 D.1.L.l.length c1, .bool D.1.L.dn, .int .i64 D.1.L.fu, .int .i64 D.1.L.fa, .int .i64 D.1.L.size, .int .u64 D.1.L.fr, .int .u64 D.1.L.nx, .bool D.1.L.br, .slice B1 D.1.es.length d1, .int .i64 D.1.most] 33, box gz [.slice none 0 0, .bool false, .int .i64 0, .int .i64 0, .int .i64 0, .int .u64 0, .int .u64 0, .bool false, .slice none 0 0, .int .i64 0] 33]) rfl (t := 33) (p := 2) rfl rfl ?hr (H1 := (Sep.jF (Sep.jF (Sep.jF (Sep.jF (Sep.jF (Sep.jF (Sep.jF (Sep.jF (Sep.jF (Sep.jF H.out 0 (.slice A1 D.1.L.l.length c1) rfl) 1 (.bool D.1.L.dn) rfl) 2 (.int .i64 D.1.L.fu) rfl) 3 (.int .i64 D.1.L.fa) rfl) 4 (.int .i64 D.1.L.size) rfl) 5 (.int .u64 D.1.L.fr) rfl) 6 (.int .u64 D.1.L.nx) rfl) 7 (.bool D.1.L.br) rfl) 8 (.slice B1 D.1.es.length d1) rfl) 9 (.int .i64 D.1.most) rfl)) ?_;
   (case hr => first | (go_simp; done) | (go_simp; rfl));
   intro wd7 n_;
   clear H c_t c_s z_s c_q z_q c_z z_z;
   have H := n_;
   clear n_;
   have c_t := H.out.cell (g := gt) mem2;
   have c_s := H.out.cell (g := gs) mem3;
   have c_q := H.out.cell (g := gq) bM;
   have z_q := H.out.frozen (g := gq) bM;
   have c_z := H.out.cell (g := gz) dM;
   have z_z := H.out.frozen (g := gz) dM)
 |fail)
  have XM : ¬ gq = gz := xM H.out (i := 4) (j := 5) rfl rfl (by decide)
  have qdX : ¬ gz = gq := fun e => XM e.symm
  have qfz : ¬ gs = gz := xM H.out (i := 3) (j := 5) rfl rfl (by decide)
  have qgZ : ¬ gz = gs := fun e => qfz e.symm
  go_upto_region 5 with fail
  go_region
  refine uT (rs := [row k67 67 (.slice A1 (D.1.L.l).length c1) D.1.L.l, row k41 41 (.slice B1 (D.1.es).length d1) D.1.es, box gt [.string data] 9, box gs [.int .u64 Q.L.nx] 28, box gq [.slice A1 D.1.L.l.length c1, .bool D.1.L.dn, .int .i64 D.1.L.fu, .int .i64 D.1.L.fa, .int .i64 D.1.L.size, .int .u64 D.1.L.fr, .int .u64 D.1.L.nx, .bool D.1.L.br, .slice B1 D.1.es.length d1, .int .i64 D.1.most] 33, box gz [.slice A1 D.1.L.l.length c1, .bool D.1.L.dn, .int .i64 D.1.L.fu, .int .i64 D.1.L.fa, .int .i64 D.1.L.size, .int .u64 D.1.L.fr, .int .u64 D.1.L.nx, .bool D.1.L.br, .slice B1 D.1.es.length d1, .int .i64 D.1.most] 33]) (Sep.drew (Sep.gZ (Sep.gZ (Sep.gZ (Sep.gZ (Sep.gZ (Sep.gZ (Sep.gZ (Sep.gZ (Sep.gZ (Sep.gZ H.out 0 (.slice A1 D.1.L.l.length c1) rfl) 1 (.bool D.1.L.dn) rfl) 2 (.int .i64 D.1.L.fu) rfl) 3 (.int .i64 D.1.L.fa) rfl) 4 (.int .i64 D.1.L.size) rfl) 5 (.int .u64 D.1.L.fr) rfl) 6 (.int .u64 D.1.L.nx) rfl) 7 (.bool D.1.L.br) rfl) 8 (.slice B1 D.1.es.length d1) rfl) 9 (.int .i64 D.1.most) rfl)) ?_
  intro wd8 n_
  clear H c_t c_s c_q z_q c_z z_z
  have H := n_
  clear n_
  have c_t := H.out.cell (g := gt) mem2
  have c_s := H.out.cell (g := gs) mem3
  have c_q := H.out.cell (g := gq) bM
  have z_q := H.out.frozen (g := gq) bM
  have c_z := H.out.cell (g := gz) dM
  have z_z := H.out.frozen (g := gz) dM
  clear XM qdX qfz qgZ
  go_wp2_with fail
  have hSD := HSD.out
  rw [if_pos hz] at hSD
  refine bodyPost_ret (dO (rs := [.cell 4 33, .tmp 5, .tmp 6]) rfl (by simp) (.cell gz 33 _ _ _ rfl (H.out.lG (g := gz) dM) Tryz.underlying33 rfl info33 (.tmp (.tmp .nil)))) rfl ?_
  subst hSD
  exact ⟨A1, c1, B1, d1, by rw [hz]; rfl, ⟨(Sep.drop2 (Sep.iZ (Sep.lH (Sep.wX H.out))))⟩⟩
 ·
  go_wp2_with (first
 |((with_reducible refine aK (t := 33) (p := 2) rfl ?_);
   refine aV (rs1 := [row k67 67 (.slice A1 (D.1.L.l).length c1) D.1.L.l, row k41 41 (.slice B1 (D.1.es).length d1) D.1.es, box gt [.string data] 9, box gs [.int .u64 Q.L.nx] 28, box gq [.slice A1 D.1.L.l.length c1, .bool D.1.L.dn, .int .i64 D.1.L.fu, .int .i64 D.1.L.fa, .int .i64 D.1.L.size, .int .u64 D.1.L.fr, .int .u64 D.1.L.nx, .bool D.1.L.br, .slice B1 D.1.es.length d1, .int .i64 D.1.most] 33, box gz [.slice none 0 0, .bool false, .int .i64 0, .int .i64 0, .int .i64 0, .int .u64 0, .int .u64 0, .bool false, .slice none 0 0, .int .i64 0] 33]) rfl (t := 33) (p := 2) rfl rfl ?hr (H1 := (Sep.jF (Sep.jF (Sep.jF (Sep.jF (Sep.jF (Sep.jF (Sep.jF (Sep.jF (Sep.jF (Sep.jF H.out 0 (.slice A1 D.1.L.l.length c1) rfl) 1 (.bool D.1.L.dn) rfl) 2 (.int .i64 D.1.L.fu) rfl) 3 (.int .i64 D.1.L.fa) rfl) 4 (.int .i64 D.1.L.size) rfl) 5 (.int .u64 D.1.L.fr) rfl) 6 (.int .u64 D.1.L.nx) rfl) 7 (.bool D.1.L.br) rfl) 8 (.slice B1 D.1.es.length d1) rfl) 9 (.int .i64 D.1.most) rfl)) ?_;
   (case hr => first | (go_simp; done) | (go_simp; rfl));
   intro wd9 n_;
   clear H c_t c_s z_s c_q z_q c_z z_z;
   have H := n_;
   clear n_;
   have c_t := H.out.cell (g := gt) mem2;
   have c_s := H.out.cell (g := gs) mem3;
   have c_q := H.out.cell (g := gq) bM;
   have z_q := H.out.frozen (g := gq) bM;
   have c_z := H.out.cell (g := gz) dM;
   have z_z := H.out.frozen (g := gz) dM)
 |((with_reducible refine aK (t := 33) (p := 4) rfl ?_);
   refine aV (rs1 := [row k67 67 (.slice A1 (D.1.L.l).length c1) D.1.L.l, row k41 41 (.slice B1 (D.1.es).length d1) D.1.es, box gt [.string data] 9, box gs [.int .u64 Q.L.nx] 28, box gq [.slice A1 D.1.L.l.length c1, .bool D.1.L.dn, .int .i64 D.1.L.fu, .int .i64 D.1.L.fa, .int .i64 D.1.L.size, .int .u64 D.1.L.fr, .int .u64 D.1.L.nx, .bool D.1.L.br, .slice B1 D.1.es.length d1, .int .i64 D.1.most] 33, box gz [.slice A1 D.1.L.l.length c1, .bool D.1.L.dn, .int .i64 D.1.L.fu, .int .i64 D.1.L.fa, .int .i64 D.1.L.size, .int .u64 D.1.L.fr, .int .u64 D.1.L.nx, .bool D.1.L.br, .slice B1 D.1.es.length d1, .int .i64 D.1.most] 33]) rfl (t := 33) (p := 4) rfl rfl ?hr (H1 := (Sep.gZ (Sep.gZ (Sep.gZ (Sep.gZ (Sep.gZ (Sep.gZ (Sep.gZ (Sep.gZ (Sep.gZ (Sep.gZ H.out 0 (.slice A1 D.1.L.l.length c1) rfl) 1 (.bool D.1.L.dn) rfl) 2 (.int .i64 D.1.L.fu) rfl) 3 (.int .i64 D.1.L.fa) rfl) 4 (.int .i64 D.1.L.size) rfl) 5 (.int .u64 D.1.L.fr) rfl) 6 (.int .u64 D.1.L.nx) rfl) 7 (.bool D.1.L.br) rfl) 8 (.slice B1 D.1.es.length d1) rfl) 9 (.int .i64 D.1.most) rfl)) ?_;
   (case hr => first | (go_simp; done) | (go_simp; rfl));
   intro DC n_;
   clear H c_t c_s c_q z_q c_z z_z;
   have H := n_;
   clear n_;
   have c_t := H.out.cell (g := gt) mem2;
   have c_s := H.out.cell (g := gs) mem3;
   have c_q := H.out.cell (g := gq) bM;
   have z_q := H.out.frozen (g := gq) bM;
   have c_z := H.out.cell (g := gz) dM;
   have z_z := H.out.frozen (g := gz) dM)
 |fail)
  have hSD := HSD.out
  rw [if_neg hz] at hSD
  subst hSD
  refine bodyPost_ret (dO (rs := [.cell 4 33, .tmp 5, .tmp 6]) rfl (by simp) (.cell gz 33 _ _ _ rfl (H.out.lG (g := gz) dM) Tryz.underlying33 rfl info33 (.tmp (.tmp .nil)))) rfl ?_
  exact ⟨A1, c1, B1, d1, rfl, ⟨(Sep.drop2 (Sep.iZ (Sep.lH (Sep.wX H.out))))⟩⟩
set_option maxHeartbeats 8000000 in
set_option maxRecDepth 100000 in
theorem sF (A : Option Addr) (c : Nat) (B : Option Addr) (d : Nat) (Q : Qu)  (w : World) (hr : Kd.C k67 w A Q.L.l.length Q.L.l) (hc : Q.L.l.length ≤ c) (hre : Kd.C k41 w B Q.es.length Q.es) (hce : Q.es.length ≤ d) (hG : Gl w) (h0 : 0 ≤ Q.L.fr) (hnx : 0 ≤ Q.L.nx) (hnx2 : Q.L.nx < 18446744073709551616) :
  Calls Tryz.prog 21 #[.agg (qc A c B d Q).toArray] w fun e w' => ∃ A' c' B' d', e = .returned (.tuple #[.agg (qc A' c' B' d' (gU Q).1).toArray, .agg #[.int .u64 (iI Q).f0, .string (iI Q).f1, .bool (iI Q).f2], .int .i64 (gU Q).2]) ∧ aA (Sep w w' [oK A' c' (gU Q).1.L.l, sV B' d' (gU Q).1.es]) := by
 have HRp := aA.mk hr
 have HCp := aA.mk hc
 have HRe := aA.mk hre
 have HCe := aA.mk hce
 have HG := aA.mk hG
 have HF := aA.mk h0
 have HN0 := aA.mk hnx
 have HN1 := aA.mk hnx2
 clear hr hc hre hce hG h0 hnx hnx2
 simp only [qc, lgc, List.cons_append, List.nil_append]
 obtain ⟨Z, hZ⟩ : ∃ Z, Z = (gU Q) := ⟨_, rfl⟩
 rw [← hZ]
 have HZ := aA.mk hZ
 clear hZ
 obtain ⟨X, hX⟩ : ∃ X, X = iI Q := ⟨_, rfl⟩
 rw [← hX]
 have HX := aA.mk hX
 clear hX
 have H := aA.mk (Sep.start w)
 go_enter Tryz.func21, Tryz.ntmps21
 go_wp2_with (first
 |((with_reducible refine aN (N := 1) rfl ?_);
   refine aX rfl H (cs := [.slice A Q.L.l.length c, .bool Q.L.dn, .int .i64 Q.L.fu, .int .i64 Q.L.fa, .int .i64 Q.L.size, .int .u64 Q.L.fr, .int .u64 Q.L.nx, .bool Q.L.br, .slice B Q.es.length d, .int .i64 Q.most]) (t := 33) ?hr ?_;
   (case hr => first | (go_simp; done) | (go_simp; rfl));
   intro gq MO n_;
   simp only [Act.put, zA, zZ, zS];
   clear H;
   have H := n_;
   clear n_;
   have c_q := H.out.cell (g := gq) aH;
   have z_q := H.out.frozen (g := gq) aH)
 |((with_reducible refine aN (N := 2) rfl ?_);
   refine aX rfl H (cs := [.slice none 0 0, .bool false, .int .i64 0, .int .i64 0, .int .i64 0, .int .u64 0, .int .u64 0, .bool false, .slice none 0 0, .int .i64 0]) (t := 33) ?hr ?_;
   (case hr => first | (go_simp; done) | (go_simp; rfl));
   intro gz yV n_;
   simp only [Act.put, zA, zZ, zS];
   clear H c_q z_q;
   have H := n_;
   clear n_;
   have c_z := H.out.cell (g := gz) aH;
   have z_z := H.out.frozen (g := gz) aH;
   have c_q := H.out.cell (g := gq) mem1;
   have z_q := H.out.frozen (g := gq) mem1)
 |((with_reducible refine aN (N := 3) rfl ?_);
   refine aX rfl H (cs := [.int .u64 0, .string ⟨#[]⟩, .bool false]) (t := 41) ?hr ?_;
   (case hr => first | (go_simp; done) | (go_simp; rfl));
   intro gy DF n_;
   simp only [Act.put, zA, zZ, zS];
   clear H c_z z_z c_q z_q;
   have H := n_;
   clear n_;
   have c_y := H.out.cell (g := gy) aH;
   have z_y := H.out.frozen (g := gy) aH;
   have c_z := H.out.cell (g := gz) mem1;
   have z_z := H.out.frozen (g := gz) mem1;
   have c_q := H.out.cell (g := gq) mem2;
   have z_q := H.out.frozen (g := gq) mem2)
 |((with_reducible refine aN (N := 5) rfl ?_);
   refine aX rfl H (cs := [.int .u64 0, .string ⟨#[]⟩, .bool false]) (t := 41) ?hr ?_;
   (case hr => first | (go_simp; done) | (go_simp; rfl));
   intro gx PE n_;
   simp only [Act.put, zA, zZ, zS];
   clear H c_y z_y c_z z_z c_q z_q;
   have H := n_;
   clear n_;
   have c_x := H.out.cell (g := gx) aH;
   have c_y := H.out.cell (g := gy) mem1;
   have z_y := H.out.frozen (g := gy) mem1;
   have c_z := H.out.cell (g := gz) mem2;
   have z_z := H.out.frozen (g := gz) mem2;
   have c_q := H.out.cell (g := gq) mem3;
   have z_q := H.out.frozen (g := gq) mem3)
 |fail)
 obtain ⟨D, hD⟩ : ∃ D, D = lW Q (qI Q) := ⟨_, rfl⟩
 have HD := aA.mk hD
 refine (wB (fdo := 56) (lb := [.pointer (some ⟨gx, 0, none⟩)]) (rs := [box gx [.int .u64 0, .string ⟨#[]⟩, .bool false] 41, box gq [.slice A Q.L.l.length c, .bool Q.L.dn, .int .i64 Q.L.fu, .int .i64 Q.L.fa, .int .i64 Q.L.size, .int .u64 Q.L.fr, .int .u64 Q.L.nx, .bool Q.L.br, .slice B Q.es.length d, .int .i64 Q.most] 33, box gz [.slice none 0 0, .bool false, .int .i64 0, .int .i64 0, .int .i64 0, .int .u64 0, .int .u64 0, .bool false, .slice none 0 0, .int .i64 0] 33, box gy [.int .u64 0, .string ⟨#[]⟩, .bool false] 41]) (rs2 := [box gx [.int .u64 (iI Q).f0, .string (iI Q).f1, .bool (iI Q).f2] 41, box gq [.slice A Q.L.l.length c, .bool Q.L.dn, .int .i64 Q.L.fu, .int .i64 Q.L.fa, .int .i64 Q.L.size, .int .u64 Q.L.fr, .int .u64 Q.L.nx, .bool Q.L.br, .slice B Q.es.length d, .int .i64 Q.most] 33, box gz [.slice none 0 0, .bool false, .int .i64 0, .int .i64 0, .int .i64 0, .int .u64 0, .int .u64 0, .bool false, .slice none 0 0, .int .i64 0] 33, box gy [.int .u64 0, .string ⟨#[]⟩, .bool false] 41]) A c B d Q (qI Q) HRp.out HCp.out HRe.out HCe.out HF.out (fun args w => by simp [go_sem]) ⟨(Sep.kF (Sep.kF (Sep.gV (Sep.iE H.out))))⟩ (fun hok hbr => tY (by have h := qdV w Q gx hok.2.2.2.1; exact h) [box gq [.slice A Q.L.l.length c, .bool Q.L.dn, .int .i64 Q.L.fu, .int .i64 Q.L.fa, .int .i64 Q.L.size, .int .u64 Q.L.fr, .int .u64 Q.L.nx, .bool Q.L.br, .slice B Q.es.length d, .int .i64 Q.most] 33, box gz [.slice none 0 0, .bool false, .int .i64 0, .int .i64 0, .int .i64 0, .int .u64 0, .int .u64 0, .bool false, .slice none 0 0, .int .i64 0] 33, box gy [.int .u64 0, .string ⟨#[]⟩, .bool false] 41]) (fun h1 h2 => by rw [iI, if_pos ⟨h1, h2⟩]; rfl) (fun h => by rw [iI, if_neg h]; rfl)).mono ?_
 rw [← hD]
 rintro e DI ⟨A1, c1, B1, d1, rfl, H2⟩
 clear hD
 simp only [qc, lgc, List.cons_append, List.nil_append]
 have n_ : aA (Sep w DI [row k67 67 (.slice A1 (D.1.L.l).length c1) D.1.L.l, row k41 41 (.slice B1 (D.1.es).length d1) D.1.es, box gx [.int .u64 (iI Q).f0, .string (iI Q).f1, .bool (iI Q).f2] 41, box gq [.slice A Q.L.l.length c, .bool Q.L.dn, .int .i64 Q.L.fu, .int .i64 Q.L.fa, .int .i64 Q.L.size, .int .u64 Q.L.fr, .int .u64 Q.L.nx, .bool Q.L.br, .slice B Q.es.length d, .int .i64 Q.most] 33, box gz [.slice none 0 0, .bool false, .int .i64 0, .int .i64 0, .int .i64 0, .int .u64 0, .int .u64 0, .bool false, .slice none 0 0, .int .i64 0] 33, box gy [.int .u64 0, .string ⟨#[]⟩, .bool false] 41]) := ⟨H2.out⟩
 clear H c_x c_y z_y c_z z_z c_q z_q
 have H := n_
 clear n_
 have c_x := H.out.cell (g := gx) mem2
 have c_q := H.out.cell (g := gq) mem3
 have z_q := H.out.frozen (g := gq) mem3
 have c_z := H.out.cell (g := gz) bM
 have z_z := H.out.frozen (g := gz) bM
 have c_y := H.out.cell (g := gy) dM
 have z_y := H.out.frozen (g := gy) dM
 clear H2
 have hZD : D = Z := HD.out.trans HZ.out.symm
 subst hZD
 rw [← HX.out] at H
 clear HD
 clear c_x c_q z_q c_z z_z c_y z_y
 have c_x := H.out.cell (g := gx) mem2
 have c_q := H.out.cell (g := gq) mem3
 have z_q := H.out.frozen (g := gq) mem3
 have c_z := H.out.cell (g := gz) bM
 have z_z := H.out.frozen (g := gz) bM
 have c_y := H.out.cell (g := gy) dM
 have z_y := H.out.frozen (g := gy) dM
 go_upto_region 3 with (first
 |((with_reducible refine aK (t := 33) (p := 1) rfl ?_);
   refine aV (rs1 := [row k67 67 (.slice A1 (D.1.L.l).length c1) D.1.L.l, row k41 41 (.slice B1 (D.1.es).length d1) D.1.es, box gx [.int .u64 X.f0, .string X.f1, .bool X.f2] 41, box gq [.slice A1 D.1.L.l.length c1, .bool D.1.L.dn, .int .i64 D.1.L.fu, .int .i64 D.1.L.fa, .int .i64 D.1.L.size, .int .u64 D.1.L.fr, .int .u64 D.1.L.nx, .bool D.1.L.br, .slice B1 D.1.es.length d1, .int .i64 D.1.most] 33, box gz [.slice none 0 0, .bool false, .int .i64 0, .int .i64 0, .int .i64 0, .int .u64 0, .int .u64 0, .bool false, .slice none 0 0, .int .i64 0] 33, box gy [.int .u64 0, .string ⟨#[]⟩, .bool false] 41]) rfl (t := 33) (p := 1) rfl rfl ?hr (H1 := (Sep.dQ (Sep.dQ (Sep.dQ (Sep.dQ (Sep.dQ (Sep.dQ (Sep.dQ (Sep.dQ (Sep.dQ (Sep.dQ H.out 0 (.slice A1 D.1.L.l.length c1) rfl) 1 (.bool D.1.L.dn) rfl) 2 (.int .i64 D.1.L.fu) rfl) 3 (.int .i64 D.1.L.fa) rfl) 4 (.int .i64 D.1.L.size) rfl) 5 (.int .u64 D.1.L.fr) rfl) 6 (.int .u64 D.1.L.nx) rfl) 7 (.bool D.1.L.br) rfl) 8 (.slice B1 D.1.es.length d1) rfl) 9 (.int .i64 D.1.most) rfl)) ?_;
   (case hr => first | (go_simp; done) | (go_simp; rfl));
   intro QT n_;
   clear H c_x c_q z_q c_z z_z c_y z_y;
   have H := n_;
   clear n_;
   have c_x := H.out.cell (g := gx) mem2;
   have c_q := H.out.cell (g := gq) mem3;
   have z_q := H.out.frozen (g := gq) mem3;
   have c_z := H.out.cell (g := gz) bM;
   have z_z := H.out.frozen (g := gz) bM;
   have c_y := H.out.cell (g := gy) dM;
   have z_y := H.out.frozen (g := gy) dM)
 |fail)
 have XM : ¬ gq = gz := xM H.out (i := 3) (j := 4) rfl rfl (by decide)
 have qdX : ¬ gz = gq := fun e => XM e.symm
 have qfA : ¬ gq = gy := xM H.out (i := 3) (j := 5) rfl rfl (by decide)
 have qg0 : ¬ gy = gq := fun e => qfA e.symm
 have qfB : ¬ gx = gz := xM H.out (i := 2) (j := 4) rfl rfl (by decide)
 have qg1 : ¬ gz = gx := fun e => qfB e.symm
 have qfC : ¬ gx = gy := xM H.out (i := 2) (j := 5) rfl rfl (by decide)
 have qg2 : ¬ gy = gx := fun e => qfC e.symm
 have qfD : ¬ gz = gy := xM H.out (i := 4) (j := 5) rfl rfl (by decide)
 have qg3 : ¬ gy = gz := fun e => qfD e.symm
 go_upto_region 3 with fail
 go_region
 refine uT (rs := [row k67 67 (.slice A1 (D.1.L.l).length c1) D.1.L.l, row k41 41 (.slice B1 (D.1.es).length d1) D.1.es, box gx [.int .u64 X.f0, .string X.f1, .bool X.f2] 41, box gq [.slice A1 D.1.L.l.length c1, .bool D.1.L.dn, .int .i64 D.1.L.fu, .int .i64 D.1.L.fa, .int .i64 D.1.L.size, .int .u64 D.1.L.fr, .int .u64 D.1.L.nx, .bool D.1.L.br, .slice B1 D.1.es.length d1, .int .i64 D.1.most] 33, box gz [.slice A1 D.1.L.l.length c1, .bool D.1.L.dn, .int .i64 D.1.L.fu, .int .i64 D.1.L.fa, .int .i64 D.1.L.size, .int .u64 D.1.L.fr, .int .u64 D.1.L.nx, .bool D.1.L.br, .slice B1 D.1.es.length d1, .int .i64 D.1.most] 33, box gy [.int .u64 X.f0, .string X.f1, .bool X.f2] 41]) (Sep.drew (Sep.gZ (Sep.gZ (Sep.gZ (Sep.jF (Sep.jF (Sep.jF (Sep.jF (Sep.jF (Sep.jF (Sep.jF (Sep.jF (Sep.jF (Sep.jF H.out 0 (.slice A1 D.1.L.l.length c1) rfl) 1 (.bool D.1.L.dn) rfl) 2 (.int .i64 D.1.L.fu) rfl) 3 (.int .i64 D.1.L.fa) rfl) 4 (.int .i64 D.1.L.size) rfl) 5 (.int .u64 D.1.L.fr) rfl) 6 (.int .u64 D.1.L.nx) rfl) 7 (.bool D.1.L.br) rfl) 8 (.slice B1 D.1.es.length d1) rfl) 9 (.int .i64 D.1.most) rfl) 0 (.int .u64 X.f0) rfl) 1 (.string X.f1) rfl) 2 (.bool X.f2) rfl)) ?_
 intro XB n_
 clear H c_x c_q z_q c_z z_z c_y z_y
 have H := n_
 clear n_
 have c_x := H.out.cell (g := gx) mem2
 have c_q := H.out.cell (g := gq) mem3
 have z_q := H.out.frozen (g := gq) mem3
 have c_z := H.out.cell (g := gz) bM
 have z_z := H.out.frozen (g := gz) bM
 have c_y := H.out.cell (g := gy) dM
 have z_y := H.out.frozen (g := gy) dM
 clear XM qdX qfA qg0 qfB qg1 qfC qg2 qfD qg3
 go_wp2_with fail
 refine bodyPost_ret (dO (rs := [.cell 2 33, .cell 3 41, .tmp 4]) rfl (by simp) (.cell gz 33 _ _ _ rfl (H.out.lG (g := gz) bM) Tryz.underlying33 rfl info33 (.cell gy 41 _ _ _ rfl (H.out.lG (g := gy) dM) Tryz.underlying41 rfl qe0 (.tmp .nil)))) rfl ?_
 exact ⟨A1, c1, B1, d1, rfl, ⟨(Sep.drop2 (Sep.iZ (Sep.lH (Sep.wX H.out))))⟩⟩
set_option maxHeartbeats 8000000 in
set_option maxRecDepth 100000 in
theorem XO (A : Option Addr) (c : Nat) (B : Option Addr) (d : Nat) (Q : Qu) (q : Int) (w : World) (hr : Kd.C k67 w A Q.L.l.length Q.L.l) (hc : Q.L.l.length ≤ c) (hre : Kd.C k41 w B Q.es.length Q.es) (hce : Q.es.length ≤ d) (hG : Gl w) (h0 : 0 ≤ Q.L.fr) (hnx : 0 ≤ Q.L.nx) (hnx2 : Q.L.nx < 18446744073709551616) (hq0 : 0 ≤ q) (hq1 : q < 18446744073709551616) :
  Calls Tryz.prog 37 #[.agg (qc A c B d Q).toArray, .int .u64 q] w fun e w' => ∃ A' c' B' d', e = .returned (.tuple #[.agg (qc A' c' B' d' (sZ Q q).1).toArray, .int .i64 (sZ Q q).2]) ∧ aA (Sep w w' [oK A' c' (sZ Q q).1.L.l, sV B' d' (sZ Q q).1.es]) := by
 have HRp := aA.mk hr
 have HCp := aA.mk hc
 have HRe := aA.mk hre
 have HCe := aA.mk hce
 have HG := aA.mk hG
 have HF := aA.mk h0
 have HN0 := aA.mk hnx
 have HN1 := aA.mk hnx2
 clear hr hc hre hce hG h0 hnx hnx2
 simp only [qc, lgc, List.cons_append, List.nil_append]
 obtain ⟨Z, hZ⟩ : ∃ Z, Z = (sZ Q q) := ⟨_, rfl⟩
 rw [← hZ]
 have HZ := aA.mk hZ
 clear hZ
 have H := aA.mk (Sep.start w)
 have HQ0 := aA.mk hq0
 have HQ1 := aA.mk hq1
 clear hq0 hq1
 go_enter Tryz.func37, Tryz.ntmps37
 go_wp2_with (first
 |((with_reducible refine aN (N := 2) rfl ?_);
   refine aX rfl H (cs := [.slice A Q.L.l.length c, .bool Q.L.dn, .int .i64 Q.L.fu, .int .i64 Q.L.fa, .int .i64 Q.L.size, .int .u64 Q.L.fr, .int .u64 Q.L.nx, .bool Q.L.br, .slice B Q.es.length d, .int .i64 Q.most]) (t := 33) ?hr ?_;
   (case hr => first | (go_simp; done) | (go_simp; rfl));
   intro gq TP n_;
   simp only [Act.put, zA, zZ, zS];
   clear H;
   have H := n_;
   clear n_;
   have c_q := H.out.cell (g := gq) aH;
   have z_q := H.out.frozen (g := gq) aH)
 |((with_reducible refine aN (N := 3) rfl ?_);
   refine aX rfl H (cs := [.int .u64 q]) (t := 28) ?hr ?_;
   (case hr => first | (go_simp; done) | (go_simp; rfl));
   intro gs YZ n_;
   simp only [Act.put, zA, zZ, zS];
   clear H c_q z_q;
   have H := n_;
   clear n_;
   have c_s := H.out.cell (g := gs) aH;
   have c_q := H.out.cell (g := gq) mem1;
   have z_q := H.out.frozen (g := gq) mem1)
 |((with_reducible refine aN (N := 4) rfl ?_);
   refine aX rfl H (cs := [.slice none 0 0, .bool false, .int .i64 0, .int .i64 0, .int .i64 0, .int .u64 0, .int .u64 0, .bool false, .slice none 0 0, .int .i64 0]) (t := 33) ?hr ?_;
   (case hr => first | (go_simp; done) | (go_simp; rfl));
   intro gz Y0 n_;
   simp only [Act.put, zA, zZ, zS];
   clear H c_s c_q z_q;
   have H := n_;
   clear n_;
   have c_z := H.out.cell (g := gz) aH;
   have z_z := H.out.frozen (g := gz) aH;
   have c_s := H.out.cell (g := gs) mem1;
   have c_q := H.out.cell (g := gq) mem2;
   have z_q := H.out.frozen (g := gq) mem2)
 |fail)
 obtain ⟨D, hD⟩ : ∃ D, D = lW Q (pW Q q) := ⟨_, rfl⟩
 have HD := aA.mk hD
 refine (wB (fdo := 85) (lb := [.pointer (some ⟨gs, 0, none⟩)]) (rs := [box gs [.int .u64 q] 28, box gq [.slice A Q.L.l.length c, .bool Q.L.dn, .int .i64 Q.L.fu, .int .i64 Q.L.fa, .int .i64 Q.L.size, .int .u64 Q.L.fr, .int .u64 Q.L.nx, .bool Q.L.br, .slice B Q.es.length d, .int .i64 Q.most] 33, box gz [.slice none 0 0, .bool false, .int .i64 0, .int .i64 0, .int .i64 0, .int .u64 0, .int .u64 0, .bool false, .slice none 0 0, .int .i64 0] 33]) (rs2 := [box gs [.int .u64 q] 28, box gq [.slice A Q.L.l.length c, .bool Q.L.dn, .int .i64 Q.L.fu, .int .i64 Q.L.fa, .int .i64 Q.L.size, .int .u64 Q.L.fr, .int .u64 Q.L.nx, .bool Q.L.br, .slice B Q.es.length d, .int .i64 Q.most] 33, box gz [.slice none 0 0, .bool false, .int .i64 0, .int .i64 0, .int .i64 0, .int .u64 0, .int .u64 0, .bool false, .slice none 0 0, .int .i64 0] 33]) A c B d Q (pW Q q) HRp.out HCp.out HRe.out HCe.out HF.out (fun args w => by simp [go_sem]) ⟨(Sep.gV (Sep.gV H.out))⟩ (fun hok hbr => tY (ZO w Q gs q hok.2.2.2.1) [box gq [.slice A Q.L.l.length c, .bool Q.L.dn, .int .i64 Q.L.fu, .int .i64 Q.L.fa, .int .i64 Q.L.size, .int .u64 Q.L.fr, .int .u64 Q.L.nx, .bool Q.L.br, .slice B Q.es.length d, .int .i64 Q.most] 33, box gz [.slice none 0 0, .bool false, .int .i64 0, .int .i64 0, .int .i64 0, .int .u64 0, .int .u64 0, .bool false, .slice none 0 0, .int .i64 0] 33]) (fun _ _ => rfl) (fun _ => rfl)).mono ?_
 rw [← hD]
 rintro e TQ ⟨A1, c1, B1, d1, rfl, H2⟩
 clear hD
 simp only [qc, lgc, List.cons_append, List.nil_append]
 have n_ : aA (Sep w TQ [row k67 67 (.slice A1 (D.1.L.l).length c1) D.1.L.l, row k41 41 (.slice B1 (D.1.es).length d1) D.1.es, box gs [.int .u64 q] 28, box gq [.slice A Q.L.l.length c, .bool Q.L.dn, .int .i64 Q.L.fu, .int .i64 Q.L.fa, .int .i64 Q.L.size, .int .u64 Q.L.fr, .int .u64 Q.L.nx, .bool Q.L.br, .slice B Q.es.length d, .int .i64 Q.most] 33, box gz [.slice none 0 0, .bool false, .int .i64 0, .int .i64 0, .int .i64 0, .int .u64 0, .int .u64 0, .bool false, .slice none 0 0, .int .i64 0] 33]) := ⟨H2.out⟩
 clear H c_z z_z c_s c_q z_q
 have H := n_
 clear n_
 have c_s := H.out.cell (g := gs) mem2
 have c_q := H.out.cell (g := gq) mem3
 have z_q := H.out.frozen (g := gq) mem3
 have c_z := H.out.cell (g := gz) bM
 have z_z := H.out.frozen (g := gz) bM
 clear H2
 have hZD : D = Z := HD.out.trans HZ.out.symm
 subst hZD
 clear HD
 go_wp2_with (first
 |((with_reducible refine aK (t := 33) (p := 4) rfl ?_);
   refine aV (rs1 := [row k67 67 (.slice A1 (D.1.L.l).length c1) D.1.L.l, row k41 41 (.slice B1 (D.1.es).length d1) D.1.es, box gs [.int .u64 q] 28, box gq [.slice A Q.L.l.length c, .bool Q.L.dn, .int .i64 Q.L.fu, .int .i64 Q.L.fa, .int .i64 Q.L.size, .int .u64 Q.L.fr, .int .u64 Q.L.nx, .bool Q.L.br, .slice B Q.es.length d, .int .i64 Q.most] 33, box gz [.slice A1 D.1.L.l.length c1, .bool D.1.L.dn, .int .i64 D.1.L.fu, .int .i64 D.1.L.fa, .int .i64 D.1.L.size, .int .u64 D.1.L.fr, .int .u64 D.1.L.nx, .bool D.1.L.br, .slice B1 D.1.es.length d1, .int .i64 D.1.most] 33]) rfl (t := 33) (p := 4) rfl rfl ?hr (H1 := (Sep.jF (Sep.jF (Sep.jF (Sep.jF (Sep.jF (Sep.jF (Sep.jF (Sep.jF (Sep.jF (Sep.jF H.out 0 (.slice A1 D.1.L.l.length c1) rfl) 1 (.bool D.1.L.dn) rfl) 2 (.int .i64 D.1.L.fu) rfl) 3 (.int .i64 D.1.L.fa) rfl) 4 (.int .i64 D.1.L.size) rfl) 5 (.int .u64 D.1.L.fr) rfl) 6 (.int .u64 D.1.L.nx) rfl) 7 (.bool D.1.L.br) rfl) 8 (.slice B1 D.1.es.length d1) rfl) 9 (.int .i64 D.1.most) rfl)) ?_;
   (case hr => first | (go_simp; done) | (go_simp; rfl));
   intro qdI n_;
   clear H c_s c_q z_q c_z z_z;
   have H := n_;
   clear n_;
   have c_s := H.out.cell (g := gs) mem2;
   have c_q := H.out.cell (g := gq) mem3;
   have z_q := H.out.frozen (g := gq) mem3;
   have c_z := H.out.cell (g := gz) bM;
   have z_z := H.out.frozen (g := gz) bM)
 |fail)
 refine bodyPost_ret (dO (rs := [.cell 4 33, .tmp 5]) rfl (by simp) (.cell gz 33 _ _ _ rfl (H.out.lG (g := gz) bM) Tryz.underlying33 rfl info33 (.tmp .nil))) rfl ?_
 exact ⟨A1, c1, B1, d1, rfl, ⟨(Sep.drop2 (Sep.iZ (Sep.lH H.out)))⟩⟩
set_option maxHeartbeats 8000000 in
set_option maxRecDepth 100000 in
theorem NR (A : Option Addr) (c : Nat) (B : Option Addr) (d : Nat) (Q : Qu) (q : Int) (w : World) (hr : Kd.C k67 w A Q.L.l.length Q.L.l) (hc : Q.L.l.length ≤ c) (hre : Kd.C k41 w B Q.es.length Q.es) (hce : Q.es.length ≤ d) (hG : Gl w) (h0 : 0 ≤ Q.L.fr) (hnx : 0 ≤ Q.L.nx) (hnx2 : Q.L.nx < 18446744073709551616) (hq0 : 0 ≤ q) (hq1 : q < 18446744073709551616) :
  Calls Tryz.prog 22 #[.agg (qc A c B d Q).toArray, .int .u64 q] w fun e w' => ∃ A' c' B' d', e = .returned (.tuple #[.agg (qc A' c' B' d' (rX Q q).1).toArray, .int .i64 (rX Q q).2]) ∧ aA (Sep w w' [oK A' c' (rX Q q).1.L.l, sV B' d' (rX Q q).1.es]) := by
 have HRp := aA.mk hr
 have HCp := aA.mk hc
 have HRe := aA.mk hre
 have HCe := aA.mk hce
 have HG := aA.mk hG
 have HF := aA.mk h0
 have HN0 := aA.mk hnx
 have HN1 := aA.mk hnx2
 clear hr hc hre hce hG h0 hnx hnx2
 simp only [qc, lgc, List.cons_append, List.nil_append]
 obtain ⟨Z, hZ⟩ : ∃ Z, Z = (rX Q q) := ⟨_, rfl⟩
 rw [← hZ]
 have HZ := aA.mk hZ
 clear hZ
 have H := aA.mk (Sep.start w)
 have HQ0 := aA.mk hq0
 have HQ1 := aA.mk hq1
 clear hq0 hq1
 go_enter Tryz.func22, Tryz.ntmps22
 go_wp2_with (first
 |((with_reducible refine aN (N := 2) rfl ?_);
   refine aX rfl H (cs := [.slice A Q.L.l.length c, .bool Q.L.dn, .int .i64 Q.L.fu, .int .i64 Q.L.fa, .int .i64 Q.L.size, .int .u64 Q.L.fr, .int .u64 Q.L.nx, .bool Q.L.br, .slice B Q.es.length d, .int .i64 Q.most]) (t := 33) ?hr ?_;
   (case hr => first | (go_simp; done) | (go_simp; rfl));
   intro gq qeI n_;
   simp only [Act.put, zA, zZ, zS];
   clear H;
   have H := n_;
   clear n_;
   have c_q := H.out.cell (g := gq) aH;
   have z_q := H.out.frozen (g := gq) aH)
 |((with_reducible refine aN (N := 3) rfl ?_);
   refine aX rfl H (cs := [.int .u64 q]) (t := 28) ?hr ?_;
   (case hr => first | (go_simp; done) | (go_simp; rfl));
   intro gs qeJ n_;
   simp only [Act.put, zA, zZ, zS];
   clear H c_q z_q;
   have H := n_;
   clear n_;
   have c_s := H.out.cell (g := gs) aH;
   have c_q := H.out.cell (g := gq) mem1;
   have z_q := H.out.frozen (g := gq) mem1)
 |((with_reducible refine aN (N := 4) rfl ?_);
   refine aX rfl H (cs := [.slice none 0 0, .bool false, .int .i64 0, .int .i64 0, .int .i64 0, .int .u64 0, .int .u64 0, .bool false, .slice none 0 0, .int .i64 0]) (t := 33) ?hr ?_;
   (case hr => first | (go_simp; done) | (go_simp; rfl));
   intro gz TR n_;
   simp only [Act.put, zA, zZ, zS];
   clear H c_s c_q z_q;
   have H := n_;
   clear n_;
   have c_z := H.out.cell (g := gz) aH;
   have z_z := H.out.frozen (g := gz) aH;
   have c_s := H.out.cell (g := gs) mem1;
   have c_q := H.out.cell (g := gq) mem2;
   have z_q := H.out.frozen (g := gq) mem2)
 |fail)
 obtain ⟨D, hD⟩ : ∃ D, D = lW Q (G5 Q q) := ⟨_, rfl⟩
 have HD := aA.mk hD
 refine (wB (fdo := 59) (lb := [.pointer (some ⟨gs, 0, none⟩)]) (rs := [box gs [.int .u64 q] 28, box gq [.slice A Q.L.l.length c, .bool Q.L.dn, .int .i64 Q.L.fu, .int .i64 Q.L.fa, .int .i64 Q.L.size, .int .u64 Q.L.fr, .int .u64 Q.L.nx, .bool Q.L.br, .slice B Q.es.length d, .int .i64 Q.most] 33, box gz [.slice none 0 0, .bool false, .int .i64 0, .int .i64 0, .int .i64 0, .int .u64 0, .int .u64 0, .bool false, .slice none 0 0, .int .i64 0] 33]) (rs2 := [box gs [.int .u64 q] 28, box gq [.slice A Q.L.l.length c, .bool Q.L.dn, .int .i64 Q.L.fu, .int .i64 Q.L.fa, .int .i64 Q.L.size, .int .u64 Q.L.fr, .int .u64 Q.L.nx, .bool Q.L.br, .slice B Q.es.length d, .int .i64 Q.most] 33, box gz [.slice none 0 0, .bool false, .int .i64 0, .int .i64 0, .int .i64 0, .int .u64 0, .int .u64 0, .bool false, .slice none 0 0, .int .i64 0] 33]) A c B d Q (G5 Q q) HRp.out HCp.out HRe.out HCe.out HF.out (fun args w => by simp [go_sem]) ⟨(Sep.gV (Sep.gV H.out))⟩ (fun hok hbr => tY (qgi w Q gs q HQ0.out HQ1.out HG.out HN0.out HN1.out HF.out hok) [box gq [.slice A Q.L.l.length c, .bool Q.L.dn, .int .i64 Q.L.fu, .int .i64 Q.L.fa, .int .i64 Q.L.size, .int .u64 Q.L.fr, .int .u64 Q.L.nx, .bool Q.L.br, .slice B Q.es.length d, .int .i64 Q.most] 33, box gz [.slice none 0 0, .bool false, .int .i64 0, .int .i64 0, .int .i64 0, .int .u64 0, .int .u64 0, .bool false, .slice none 0 0, .int .i64 0] 33]) (fun _ _ => rfl) (fun _ => rfl)).mono ?_
 rw [← hD]
 rintro e Y1 ⟨A1, c1, B1, d1, rfl, H2⟩
 clear hD
 simp only [qc, lgc, List.cons_append, List.nil_append]
 have n_ : aA (Sep w Y1 [row k67 67 (.slice A1 (D.1.L.l).length c1) D.1.L.l, row k41 41 (.slice B1 (D.1.es).length d1) D.1.es, box gs [.int .u64 q] 28, box gq [.slice A Q.L.l.length c, .bool Q.L.dn, .int .i64 Q.L.fu, .int .i64 Q.L.fa, .int .i64 Q.L.size, .int .u64 Q.L.fr, .int .u64 Q.L.nx, .bool Q.L.br, .slice B Q.es.length d, .int .i64 Q.most] 33, box gz [.slice none 0 0, .bool false, .int .i64 0, .int .i64 0, .int .i64 0, .int .u64 0, .int .u64 0, .bool false, .slice none 0 0, .int .i64 0] 33]) := ⟨H2.out⟩
 clear H c_z z_z c_s c_q z_q
 have H := n_
 clear n_
 have c_s := H.out.cell (g := gs) mem2
 have c_q := H.out.cell (g := gq) mem3
 have z_q := H.out.frozen (g := gq) mem3
 have c_z := H.out.cell (g := gz) bM
 have z_z := H.out.frozen (g := gz) bM
 clear H2
 have hZD : D = Z := HD.out.trans HZ.out.symm
 subst hZD
 clear HD
 go_wp2_with (first
 |((with_reducible refine aK (t := 33) (p := 4) rfl ?_);
   refine aV (rs1 := [row k67 67 (.slice A1 (D.1.L.l).length c1) D.1.L.l, row k41 41 (.slice B1 (D.1.es).length d1) D.1.es, box gs [.int .u64 q] 28, box gq [.slice A Q.L.l.length c, .bool Q.L.dn, .int .i64 Q.L.fu, .int .i64 Q.L.fa, .int .i64 Q.L.size, .int .u64 Q.L.fr, .int .u64 Q.L.nx, .bool Q.L.br, .slice B Q.es.length d, .int .i64 Q.most] 33, box gz [.slice A1 D.1.L.l.length c1, .bool D.1.L.dn, .int .i64 D.1.L.fu, .int .i64 D.1.L.fa, .int .i64 D.1.L.size, .int .u64 D.1.L.fr, .int .u64 D.1.L.nx, .bool D.1.L.br, .slice B1 D.1.es.length d1, .int .i64 D.1.most] 33]) rfl (t := 33) (p := 4) rfl rfl ?hr (H1 := (Sep.jF (Sep.jF (Sep.jF (Sep.jF (Sep.jF (Sep.jF (Sep.jF (Sep.jF (Sep.jF (Sep.jF H.out 0 (.slice A1 D.1.L.l.length c1) rfl) 1 (.bool D.1.L.dn) rfl) 2 (.int .i64 D.1.L.fu) rfl) 3 (.int .i64 D.1.L.fa) rfl) 4 (.int .i64 D.1.L.size) rfl) 5 (.int .u64 D.1.L.fr) rfl) 6 (.int .u64 D.1.L.nx) rfl) 7 (.bool D.1.L.br) rfl) 8 (.slice B1 D.1.es.length d1) rfl) 9 (.int .i64 D.1.most) rfl)) ?_;
   (case hr => first | (go_simp; done) | (go_simp; rfl));
   intro qdJ n_;
   clear H c_s c_q z_q c_z z_z;
   have H := n_;
   clear n_;
   have c_s := H.out.cell (g := gs) mem2;
   have c_q := H.out.cell (g := gq) mem3;
   have z_q := H.out.frozen (g := gq) mem3;
   have c_z := H.out.cell (g := gz) bM;
   have z_z := H.out.frozen (g := gz) bM)
 |fail)
 refine bodyPost_ret (dO (rs := [.cell 4 33, .tmp 5]) rfl (by simp) (.cell gz 33 _ _ _ rfl (H.out.lG (g := gz) bM) Tryz.underlying33 rfl info33 (.tmp .nil))) rfl ?_
 exact ⟨A1, c1, B1, d1, rfl, ⟨(Sep.drop2 (Sep.iZ (Sep.lH H.out)))⟩⟩
end Go.Proofs.YtanonhipicoigaaGreatDoor.U
namespace Go.Proofs.YtanonhipicoigaaGreatDoor.U
open Go.RowKit Go.Proofs.YW.PrintWords Go.Proofs.YW.PrintLast Go.Proofs.YW.PrintMore
attribute [local go_sem] iJ iK jP jQ gX gY iW iY
theorem qg4 (d : Nat) (w : World) (x0 y0 : ByteArray) (x1 y1 : ByteArray) (x2 y2 : Int) :
  (Op.equalIn (d + 2) 67 (.agg #[.string x0, .string x1, .int .i64 x2]) (.agg #[.string y0, .string y1, .int .i64 y2])).run Tryz.prog w = .ok (x0.toList == y0.toList && (x1.toList == y1.toList && (x2 == y2))) w := by
 refine YE Tryz.underlying67 (by kernel_rfl) ?_
 refine wV (by rfl) (by go_simp; rfl) (by go_simp; rfl) (by go_simp) ?_
 refine wV (by rfl) (by go_simp; rfl) (by go_simp; rfl) (by go_simp) ?_
 exact N9 (by rfl) (by go_simp; rfl) (by go_simp; rfl) (by go_simp)
end Go.Proofs.YtanonhipicoigaaGreatDoor.U
namespace Go.Proofs.YtanonhipicoigaaGreatDoor.U
open Go.RowKit Go.Proofs.YW.PrintWords Go.Proofs.YW.PrintLast Go.Proofs.YW.PrintMore
attribute [local go_sem] iJ iK jP jQ gX gY iW iY
attribute [local go_sem high] qg4
end Go.Proofs.YtanonhipicoigaaGreatDoor.U
namespace Go.Proofs.YtanonhipicoigaaGreatDoor.U
open Go.RowKit Go.Proofs.YW.PrintWords Go.Proofs.YW.PrintLast Go.Proofs.YW.PrintMore
end Go.Proofs.YtanonhipicoigaaGreatDoor.U
namespace Go.Proofs.YtanonhipicoigaaGreatDoor.U
open Go.RowKit Go.Proofs.YW.PrintWords Go.Proofs.YW.PrintLast Go.Proofs.YW.PrintMore Go.Proofs.YtanonhipicoigaaGreatDoor.Sp Go.Proofs.YtanonhipicoigaaGreatDoor.eP
theorem G7 {α : Type} {p : α} : ∀ {a a' b b' : List α}, p ∉ a → p ∉ a' → a ++ p :: b = a' ++ p :: b' → a = a' ∧ b = b'
 | [], [], _, _, _, _, h => by simpa using h
 | [], y :: a', _, _, _, h2, h => by
  simp only [List.nil_append, List.cons_append, List.cons.injEq] at h
  exact absurd (by rw [← h.1]; exact List.mem_cons_self ..) h2
 | y :: a, [], _, _, h1, _, h => by
  simp only [List.nil_append, List.cons_append, List.cons.injEq] at h
  exact absurd (by rw [h.1]; exact List.mem_cons_self ..) h1
 | y :: a, z :: a', b, b', h1, h2, h => by
  simp only [List.cons_append, List.cons.injEq] at h
  obtain ⟨rfl, h⟩ := h
  obtain ⟨rfl, rfl⟩ := G7 (fun g => h1 (List.mem_cons_of_mem _ g)) (fun g => h2 (List.mem_cons_of_mem _ g)) h
  exact ⟨rfl, rfl⟩
theorem lQ (a b : List S67) : aP (a ++ b) = aP a ++ aP b := List.filterMap_append ..
theorem lF {l : List S67} {p : Pl} : p ∈ aP l ↔ p.1 ∈ l ∧ numOf p.1.f0 = some p.2 := by
 constructor
 ·intro h
  obtain ⟨f, hf, he⟩ := List.mem_filterMap.1 h
  cases hn : numOf f.f0 with
  | none => rw [hn] at he; cases he
  | some n =>
   rw [hn] at he
   injection he with he
   subst he
   exact ⟨hf, hn⟩
 ·rintro ⟨h1, h2⟩
  refine List.mem_filterMap.2 ⟨p.1, h1, ?_⟩
  rw [h2, Option.map_some]
theorem qfc (N : ByteArray → Option Nat) {x : S67} {n : Nat} (h : N x.f0 = some n) (l : List S67) : (x :: l).filterMap (fun f => (N f.f0).map fun n => (f, n)) = (x, n) :: l.filterMap (fun f => (N f.f0).map fun n => (f, n)) := by
 simp only [List.filterMap_cons, h, Option.map_some]
theorem qJ {x : S67} {n : Nat} (h : numOf x.f0 = some n) (l : List S67) : aP (x :: l) = (x, n) :: aP l := qfc numOf h l
theorem qdY {l : List S67} {i : Nat} {x : S67} (h : l[i]? = some x) : l = l.take i ++ x :: l.drop (i + 1) := by
 obtain ⟨hi, e⟩ := List.getElem?_eq_some_iff.1 h
 conv => lhs; rw [← List.take_append_drop i l]
 rw [List.drop_eq_getElem_cons hi, e]
theorem kD {l : List S67} (h : bI l = true) {a b : List Pl} {p : Pl} (hp : aP l = a ++ p :: b) :
  l[bsOf l p.1.f0]? = some p.1 ∧ lI l p.1.f0 (bsOf l p.1.f0) = true ∧ numOf p.1.f0 = some p.2 ∧ a = aP (l.take (bsOf l p.1.f0)) ∧ b = aP (l.drop (bsOf l p.1.f0 + 1)) := by
 have hm : p ∈ aP l := by rw [hp]; simp
 obtain ⟨h1, h2⟩ := lF.1 hm
 have hb := OL h p.1.f0 h1 rfl
 refine ⟨hb, (uZ _ _ _).2 ⟨p.1, hb, rfl⟩, h2, ?_⟩
 have hn : ∀ (c : List Pl) (d : List S67), c = aP (l.take (bsOf l p.1.f0)) → p ∉ c := by
  rintro c d rfl hc
  obtain ⟨h3, _⟩ := lF.1 hc
  obtain ⟨k, hk⟩ := List.getElem?_of_mem h3
  have hkb : k < bsOf l p.1.f0 := by
   have := (List.getElem?_eq_some_iff.1 hk).1
   simp only [List.length_take] at this
   omega
  rw [List.getElem?_take_of_lt hkb] at hk
  exact OJ (sQ h hkb hk hb) rfl
 have hs : aP l = aP (l.take (bsOf l p.1.f0)) ++ p :: aP (l.drop (bsOf l p.1.f0 + 1)) := by
  conv => lhs; rw [qdY hb, lQ, qJ h2]
 refine G7 ?_ (hn _ [] rfl) (hp.symm.trans hs)
 intro ha
 obtain ⟨i, hi⟩ := List.getElem?_of_mem ha
 have e1 : (aP l)[i]? = some p := by
  rw [hp, List.getElem?_append_left (List.getElem?_eq_some_iff.1 hi).1, hi]
 have e2 : (aP l)[a.length]? = some p := by rw [hp]; simp
 have hlt : i < a.length := (List.getElem?_eq_some_iff.1 hi).1
 have hnd : (aP l).Pairwise (fun p q => BL p.1.f0.toList q.1.f0.toList) := by
  have hp0 : l.Pairwise (fun x y => BL x.f0.toList y.f0.toList) := by
   have h0 := LU h
   rw [names, List.pairwise_map] at h0
   exact h0
  refine List.Pairwise.filterMap _ ?_ hp0
  intro x y hxy p1 hp1 q1 hq1
  cases hx : numOf x.f0 with
  | none => rw [hx] at hp1; cases hp1
  | some n =>
   rw [hx] at hp1
   cases hp1
   cases hy : numOf y.f0 with
   | none => rw [hy] at hq1; cases hq1
   | some m =>
    rw [hy] at hq1
    cases hq1
    exact hxy
 obtain ⟨j1, e1'⟩ := List.getElem?_eq_some_iff.1 e1
 obtain ⟨j2, e2'⟩ := List.getElem?_eq_some_iff.1 e2
 have := List.pairwise_iff_getElem.1 hnd i a.length j1 j2 hlt
 rw [e1', e2'] at this
 exact OJ this rfl
theorem qK {l : List S67} (h : bI l = true) {a b : List Pl} {p : Pl} (hp : aP l = a ++ p :: b) : aP (l.take (bsOf l p.1.f0) ++ l.drop (bsOf l p.1.f0 + 1)) = a ++ b := by
 obtain ⟨_, _, _, h1, h2⟩ := kD h hp
 rw [lQ, ← h1, ← h2]
theorem wC {l : List S67} (h : bI l = true) {a b : List Pl} {p : Pl} (hp : aP l = a ++ p :: b) {y : S67} (hy : y.f0 = p.1.f0) : aP (l.set (bsOf l p.1.f0) y) = a ++ (y, p.2) :: b := by
 obtain ⟨h0, _, h3, h1, h2⟩ := kD h hp
 have hi := (List.getElem?_eq_some_iff.1 h0).1
 rw [List.set_eq_take_append_cons_drop, if_pos hi, lQ, qJ (by rw [hy]; exact h3), ← h1, ← h2]
theorem kT {l : List S67} {dn : Bool} {fu fa : Int} {s : ByteArray} {wr : Bool} {rf : Int → Bool → Int} {df : Int → List S67} (h : (cZ l dn fu fa s wr rf df).2.2.2.2 = 0) :
  bI l = true ∧ dn = false ∧ rf (bsOf l s) (lI l s (bsOf l s)) = 0 ∧ (cZ l dn fu fa s wr rf df).1 = df (bsOf l s) ∧ (cZ l dn fu fa s wr rf df).2.1 = false := by
 unfold cZ at h ⊢
 split at h
 ·rename_i hr
  split at h
  ·cases h
  ·rename_i hd
   split at h
   ·rename_i hrf
    split at h
    ·cases h
    ·rename_i hf
     split at h
     ·cases h
     ·rename_i hu
      refine ⟨hr, by simpa using hd, hrf, ?_⟩
      rw [if_pos hr, if_neg hd, if_pos hrf, if_neg hf, if_neg hu]
      exact ⟨rfl, by simpa using hd⟩
   ·rename_i hrf
    exact absurd h hrf
 ·cases h
theorem ZP {L : Lg} {a b : List Pl} {p : Pl} (hp : aP L.l = a ++ p :: b) (hz : (iF L.l L.dn L.fu L.fa p.1.f0).2.2.2.2 = 0) :
  bI (iF L.l L.dn L.fu L.fa p.1.f0).1 = true ∧ aP (iF L.l L.dn L.fu L.fa p.1.f0).1 = a ++ b ∧ L.dn = false ∧ (iF L.l L.dn L.fu L.fa p.1.f0).2.1 = false := by
 obtain ⟨h1, h2, h3, h4, h5⟩ := kT hz
 have e : (iF L.l L.dn L.fu L.fa p.1.f0).1 = L.l.take (bsOf L.l p.1.f0) ++ L.l.drop (bsOf L.l p.1.f0 + 1) := by
  rw [iF, h4]
  simp
 rw [e]
 exact ⟨vC h1 _, qK h1 hp, h2, h5⟩
theorem qfd {L : Lg} {a b : List Pl} {p : Pl} {e : Nat} (hp : aP L.l = a ++ p :: b) (hz : (GK L.l L.dn L.fu L.fa p.1.f0 (e : Int)).2.2.2.2 = 0) :
  bI (GK L.l L.dn L.fu L.fa p.1.f0 (e : Int)).1 = true ∧ aP (GK L.l L.dn L.fu L.fa p.1.f0 (e : Int)).1 = a ++ (⟨p.1.f0, p.1.f1.extract 0 e, (e : Int)⟩, p.2) :: b ∧ L.dn = false ∧ (GK L.l L.dn L.fu L.fa p.1.f0 (e : Int)).2.1 = false := by
 obtain ⟨h1, h2, h3, h4, h5⟩ := kT hz
 obtain ⟨g1, g2, _⟩ := kD h1 hp
 have hg := (qdL h1 (e : Int) h3).1
 have e1 : (GK L.l L.dn L.fu L.fa p.1.f0 (e : Int)).1 = L.l.set (bsOf L.l p.1.f0) ⟨p.1.f0, p.1.f1.extract 0 e, (e : Int)⟩ := by
  rw [GK, h4]
  simp only [Int.toNat_natCast, iC g1]
 simp only [Int.toNat_natCast, iC g1] at hg
 rw [e1]
 exact ⟨hg, wC h1 hp rfl, h2, h5⟩
theorem PO : ∀ (gs : List Pl) (L R : Lg) (front : List Pl), aP L.l = front ++ gs.reverse → bI L.l = true → L.dn = false → L.br = false → oG L gs = (R, 0) →
  aP R.l = front ∧ bI R.l = true ∧ R.dn = false ∧ R.br = false ∧ R.size = L.size ∧ R.fr = L.fr ∧ R.nx = L.nx
 | [], L, R, front, hp, hr, hd, hb, h => by
  obtain ⟨rfl, _⟩ := Prod.mk.inj h
  exact ⟨by simpa using hp, hr, hd, hb, rfl, rfl, rfl⟩
 | p :: gs, L, R, front, hp, hr, hd, hb, h => by
  rw [oG] at h
  by_cases hz : (iF L.l L.dn L.fu L.fa p.1.f0).2.2.2.2 = 0
  ·rw [if_pos hz] at h
   have hp' : aP L.l = (front ++ gs.reverse) ++ p :: [] := by rw [hp]; simp
   obtain ⟨h1, h2, h3, h4⟩ := ZP hp' hz
   rw [List.append_nil] at h2
   obtain ⟨k1, k2, k3, k4, k5, k6, k7⟩ := PO gs (chg L (iF L.l L.dn L.fu L.fa p.1.f0)) R front h2 h1 h4 (by show (if _ then _ else _) = _; rw [if_pos hz]; exact hb) h
   exact ⟨k1, k2, k3, k4, k5, k6, k7⟩
  ·rw [if_neg hz] at h
   exact absurd (Prod.mk.inj h).2 hz
structure WF (L : Lg) (ds : List Bytes) (n m : Nat) : Prop where
 right : bI L.l = true
 dn : L.dn = false
 br : L.br = false
 lo : 1 ≤ L.size
 hi : L.size ≤ 262144
 first : dV (aP L.l) = n
 ch : chain SU n (aP L.l) ds m
 top : m ≤ most
 fr : L.fr = (n : Int)
 nx : L.nx = (m : Int)
theorem wE (S : Sum) : ∀ (n : Nat) (a : List Pl) (ds : List Bytes) (m : Nat), n ≤ most → chain S n a ds m → m ≤ most
 | n, [], ds, m, hn, h => by obtain ⟨rfl, rfl⟩ := h; exact hn
 | n, p :: r, ds, m, hn, h => by
  obtain ⟨h1, d1, d2, rfl, h3, h4⟩ := h
  obtain ⟨t, g1, g2, g3, g4, g5⟩ := oC S _ (byt p.1.f1) n (Nat.le_refl _)
  rw [h3] at g5
  exact wE S _ r d2 m (g5 hn) h4
theorem ZQ {l : List S67} : dV (aP l) ≤ most := by
 cases h : aP l with
 | nil => exact (by decide : 1 ≤ most)
 | cons p r =>
  have : p ∈ aP l := by rw [h]; simp
  exact (oI.1 (lF.1 this).2).1
theorem DN {l : List S67} {dn : Bool} {fu fa size : Int} {R : Lg} {rs : List S62} (h : iP l dn fu fa size = (R, rs, 0)) : ∃ ds n m, WF R ds n m ∧ rs = bQ ds n ∧ R.size = size := by
 unfold iP at h
 split at h
 case isFalse => cases h
 rename_i hr
 split at h
 case isTrue => cases h
 rename_i hs
 split at h
 case isTrue => cases h
 rename_i hd
 have hd : dn = false := by simpa using hd
 subst hd
 obtain ⟨n, hn⟩ : ∃ n, n = dV (aP l) := ⟨_, rfl⟩
 obtain ⟨F, hF⟩ : ∃ F, F = findF l := ⟨_, rfl⟩
 rw [← hn, ← hF] at h
 obtain ⟨h1, h2, h3⟩ : (iD ⟨l, false, fu, fa, size, 0, 0, false⟩ F n).1 = R ∧ (if (iD ⟨l, false, fu, fa, size, 0, 0, false⟩ F n).2 = 0 then bQ F.recs n else []) = rs ∧ (iD ⟨l, false, fu, fa, size, 0, 0, false⟩ F n).2 = 0 := by
  simpa only [Prod.mk.injEq] using h
 rw [if_pos h3] at h2
 have hg : F = goF SU (aP l) n := by rw [hF, findF, hn]
 have hnm : n ≤ most := by rw [hn]; exact ZQ
 obtain ⟨kept, ds, m, hc, hh⟩ := xG SU (aP l) n
 rw [← hg] at hh
 unfold iD at h1 h3
 split at h3
 case isFalse hz => exact absurd h3 hz
 rename_i hz
 rw [if_pos hz] at h1
 split at h3
 case isFalse hz2 => exact absurd h3 hz2
 rename_i hz2
 rw [if_pos hz2] at h1
 obtain ⟨T, hT⟩ : ∃ T, oG ⟨l, false, fu, fa, size, 0, 0, false⟩ F.gone.reverse = (T, 0) := ⟨_, Prod.ext rfl hz⟩
 rw [hT] at h1 hz2
 rcases hh with ⟨a1, a2, a3, a4, a5⟩ | ⟨p, e, dt, a1, a2, a3, a4, a5, a6, a7⟩
 ·rw [a1, oQ] at h1
  obtain ⟨k1, k2, k3, k4, k5, k6, k7⟩ := PO F.gone.reverse _ T kept (by rw [List.reverse_reverse]; exact a2) hr rfl rfl hT
  have k5' : T.size = size := k5
  subst h1
  have hf : dV kept = n := by
   cases kept with
   | nil =>
      obtain ⟨_, rfl⟩ := hc
      cases hps : aP l with
      | nil => rw [hn, hps]
      | cons p r =>
       rw [hps] at a2
       have := a5 p r a2.symm
       exact absurd (by rw [hn, hps]; rfl) this
   | cons p r => rw [hn, a2]; rfl
  refine ⟨ds, n, m, ⟨k2, k3, k4, by show 1 ≤ T.size; rw [k5']; omega, by show T.size ≤ 262144; rw [k5']; omega, by show dV (aP T.l) = n; rw [k1]; exact hf, by show chain SU n (aP T.l) ds m; rw [k1]; exact hc, wE SU n kept ds m hnm hc, rfl, by rw [a4]⟩, by rw [← h2, a3], k5⟩
 ·have hp2 : aP l = (kept ++ [p]) ++ F.gone := by rw [a2]; simp
  obtain ⟨k1, k2, k3, k4, k5, k6, k7⟩ := PO F.gone.reverse _ T (kept ++ [p]) (by rw [List.reverse_reverse]; exact hp2) hr rfl rfl hT
  have k5' : T.size = size := k5
  rw [a1, oQ] at h1 hz2
  simp only at h1 hz2
  have k1' : aP T.l = kept ++ p :: [] := k1
  obtain ⟨c1, c2, c3, c4⟩ := qfd (L := T) (e := e) k1' hz2
  have hmm : m ≤ most := wE SU n kept ds m hnm hc
  have hrc := qdt SU a4 hmm
  have hc2 : chain SU n (aP (GK T.l T.dn T.fu T.fa p.1.f0 (e : Int)).1) (ds ++ dt) (m + dt.length) := by
   rw [c2]
   refine rU SU n kept _ ds dt m _ hc ⟨a3, dt, [], by simp, ?_, rfl, rfl⟩
   exact hrc.2
  have hf : dV (aP (GK T.l T.dn T.fu T.fa p.1.f0 (e : Int)).1) = n := by
   rw [c2]
   cases kept with
   | nil =>
      obtain ⟨_, rfl⟩ := hc
      exact a3
   | cons q r => rw [hn, a2]; rfl
  subst h1
  refine ⟨ds ++ dt, n, m + dt.length, ⟨c1, c4, ?_, by show 1 ≤ T.size; rw [k5']; omega, by show T.size ≤ 262144; rw [k5']; omega, hf, hc2, wE SU n _ _ _ hnm hc2, rfl, by rw [a7]⟩, by rw [← h2, a6], k5⟩
  show (if _ then _ else _) = _
  rw [if_pos hz2]
  exact k4
theorem WF.find {L : Lg} {ds : List Bytes} {n m : Nat} (h : WF L ds n m) : findF L.l = ⟨ds, m, none, []⟩ := by
 have := RJ SU n (aP L.l) [] ds m h.ch
 rw [List.append_nil] at this
 rw [findF, h.first, this]
 simp [goF]
theorem WF.opens {L : Lg} {ds : List Bytes} {n m : Nat} (h : WF L ds n m) : iP L.l L.dn L.fu L.fa L.size = (L, bQ ds n, 0) := by
 have hlo := h.lo
 have hhi := h.hi
 rw [iP, if_pos h.right, if_neg (by omega), h.dn, if_neg (by simp), h.find, h.first]
 obtain ⟨l, dn, fu, fa, size, fr, nx, br⟩ := L
 have h1 := h.dn
 have h2 := h.br
 have h3 := h.fr
 have h4 := h.nx
 simp only at h1 h2 h3 h4
 subst h1 h2 h3 h4
 simp [iD, oG, oQ]
theorem WF.okL {L : Lg} {ds : List Bytes} {n m : Nat} (h : WF L ds n m) : okL L := by
 have h1 := oV SU n _ ds m h.ch
 have h2 := h.top
 unfold most at h2
 exact ⟨h.right, h.lo, h.hi, by rw [h.fr, h.nx]; omega, by rw [h.nx]; omega⟩
theorem WF.records {L : Lg} {ds : List Bytes} {n m : Nat} (h : WF L ds n m) : XH L = (bQ ds n, 0) := by
 rw [XH, if_pos h.okL, h.br, if_neg (by simp), h.dn, if_neg (by simp), h.find, h.first]
theorem PS : ∀ (ds : List Bytes) (n i : Nat) (x : S62), (bQ ds n)[i]? = some x → x.f0 = ((n + i : Nat) : Int)
 | [], n, i, x, h => by simp [bQ] at h
 | d :: ds, n, 0, x, h => by
  simp only [bQ, List.getElem?_cons_zero, Option.some.injEq] at h
  subst h
  rfl
 | d :: ds, n, i + 1, x, h => by
  simp only [bQ, List.getElem?_cons_succ] at h
  have := PS ds (n + 1) i x h
  rw [this]
  omega
theorem qfE : ∀ (a b : List UInt8), bl a b = Op.bytesLess a b
 | [], [] => rfl
 | _ :: _, [] => rfl
 | [], _ :: _ => rfl
 | x :: r, y :: s => by rw [bl, Op.bytesLess, qfE r s]
theorem wF (n : Nat) : (nameB n).toList = hexN 16 n := by rw [ByteArray.toList_eq]; exact qC _
theorem yA {n : Nat} (h : n ≤ most) : numOf (nameB n) = some n := oI.2 ⟨h, (qC _).symm⟩
theorem VD {s : ByteArray} {n : Nat} (h : numOf s = some n) : s = nameB n := pR ((oI.1 h).2.symm.trans (qC _).symm)
theorem qdZ {a b : Nat} (hb : b ≤ most) (h : a < b) : BL (nameB a).toList (nameB b).toList := by
 have h16 : b < 16 ^ 16 := Nat.lt_of_le_of_lt hb (by decide)
 have := NP 16 a b h16 h
 rw [qfE] at this
 rw [wF, wF]
 exact this
theorem qgj (a : List UInt8) : ¬ BL a a := fun h => OJ h rfl
theorem PU (S : Sum) : ∀ (n : Nat) (a : List Pl) (ds : List Bytes) (m : Nat), chain S n a ds m → n ≤ m ∧ ∀ p ∈ a, p.2 ≤ m
 | n, [], ds, m, h => by obtain ⟨rfl, rfl⟩ := h; exact ⟨Nat.le_refl _, by simp⟩
 | n, p :: r, ds, m, h => by
  obtain ⟨h1, d1, d2, rfl, h3, h4⟩ := h
  obtain ⟨g1, g2⟩ := PU S _ r d2 m h4
  refine ⟨by omega, fun q hq => ?_⟩
  rcases List.mem_cons.1 hq with rfl | hq
  ·omega
  ·exact g2 q hq
theorem yB (S : Sum) : ∀ (n : Nat) (a b : List Pl) (ds : List Bytes) (m : Nat), chain S n (a ++ b) ds m → ∃ d1 d2 k, chain S n a d1 k ∧ chain S k b d2 m ∧ ds = d1 ++ d2
 | n, [], b, ds, m, h => ⟨[], ds, n, ⟨rfl, rfl⟩, h, rfl⟩
 | n, p :: a, b, ds, m, h => by
  obtain ⟨h1, d1, d2, rfl, h3, h4⟩ := h
  obtain ⟨e1, e2, k, k1, k2, rfl⟩ := yB S _ a b d2 m h4
  exact ⟨d1 ++ e1, e2, k, ⟨h1, d1, e1, rfl, h3, k1⟩, k2, by simp⟩
theorem tZ {s : ByteArray} {k : Nat} {d1 : List Bytes} (h : readB SU (byt s) k = (d1, s.size)) : byt s = fJ SU k d1 ∧ ∀ d ∈ d1, d.length ≤ QO := by
 obtain ⟨r, h1, h2, h3, _⟩ := oC SU _ (byt s) k (Nat.le_refl _)
 rw [h] at h1 h2 h3
 simp only at h1 h2 h3
 have h4 := congrArg List.length h1
 rw [dL, List.length_append, ← h2] at h4
 have : r = [] := List.length_eq_zero_iff.1 (by omega)
 subst this
 exact ⟨by simpa using h1, h3⟩
theorem qct {s t : ByteArray} {k m : Nat} {d1 : List Bytes} {d : Bytes} (h : readB SU (byt s) k = (d1, s.size)) (hm : m = k + d1.length) (ht : byt t = frame SU m d) (hd : d.length ≤ QO) (hlt : m < most) : readB SU (byt (s ++ t)) k = (d1 ++ [d], (s ++ t).size) := by
 obtain ⟨h1, h2⟩ := tZ h
 have e : byt (s ++ t) = fJ SU k (d1 ++ [d]) := by
  rw [CX, xE, h1, ht, hm]
  simp [fJ]
 have hr := vF SU (ds := d1 ++ [d]) (n := k) (fun x hx => by
  rcases List.mem_append.1 hx with hx | hx
  ·exact h2 x hx
  ·rw [List.mem_singleton.1 hx]; exact hd) (by rw [List.length_append, List.length_singleton]; omega)
 rw [e, hr, ← e, dL]
theorem DR {L : Lg} {a b : List Pl} {p : Pl} {s : ByteArray} (hp : aP L.l = a ++ p :: b) (hz : (jC L.l L.dn L.fu L.fa p.1.f0 s).2.2.2.2 = 0) :
  bI (jC L.l L.dn L.fu L.fa p.1.f0 s).1 = true ∧ aP (jC L.l L.dn L.fu L.fa p.1.f0 s).1 = a ++ (⟨p.1.f0, p.1.f1 ++ s, p.1.f2⟩, p.2) :: b ∧ (jC L.l L.dn L.fu L.fa p.1.f0 s).2.1 = false ∧ (jC L.l L.dn L.fu L.fa p.1.f0 s).1.length = L.l.length := by
 obtain ⟨h1, h2, h3, h4, h5⟩ := kT hz
 obtain ⟨g1, g2, _⟩ := kD h1 hp
 have hg := (xP h1 s h3).1
 have e1 : (jC L.l L.dn L.fu L.fa p.1.f0 s).1 = L.l.set (bsOf L.l p.1.f0) ⟨p.1.f0, p.1.f1 ++ s, p.1.f2⟩ := by
  rw [jC, h4]
  simp only [Int.toNat_natCast, iC g1]
 simp only [Int.toNat_natCast, iC g1] at hg
 rw [e1]
 exact ⟨hg, wC h1 hp rfl, h5, List.length_set⟩
theorem qd0 {L : Lg} {a b : List Pl} {p : Pl} (hp : aP L.l = a ++ p :: b) (hz : (rH L.l L.dn L.fu L.fa p.1.f0).2.2.2.2 = 0) :
  bI (rH L.l L.dn L.fu L.fa p.1.f0).1 = true ∧ aP (rH L.l L.dn L.fu L.fa p.1.f0).1 = a ++ (⟨p.1.f0, p.1.f1, (p.1.f1.size : Int)⟩, p.2) :: b ∧ (rH L.l L.dn L.fu L.fa p.1.f0).2.1 = false ∧ (rH L.l L.dn L.fu L.fa p.1.f0).1.length = L.l.length := by
 obtain ⟨h1, h2, h3, h4, h5⟩ := kT hz
 obtain ⟨g1, g2, _⟩ := kD h1 hp
 have hg := (J5 h1 g2).1
 have e1 : (rH L.l L.dn L.fu L.fa p.1.f0).1 = L.l.set (bsOf L.l p.1.f0) ⟨p.1.f0, p.1.f1, (p.1.f1.size : Int)⟩ := by
  rw [rH, h4]
  simp only [Int.toNat_natCast, iC g1]
 simp only [Int.toNat_natCast, iC g1] at hg
 rw [e1]
 exact ⟨hg, wC h1 hp rfl, h5, List.length_set⟩
theorem ZR {l : List S67} (h : bI l = true) {m : Nat} (hm : m ≤ most) (hle : ∀ p ∈ aP l, p.2 ≤ m) (hi : lI l (nameB m) (bsOf l (nameB m)) = false) :
  aP (l.take (bsOf l (nameB m)) ++ [(⟨nameB m, ⟨#[]⟩, 0⟩ : S67)] ++ l.drop (bsOf l (nameB m))) = aP l ++ [((⟨nameB m, ⟨#[]⟩, 0⟩ : S67), m)] := by
 have hd : aP (l.drop (bsOf l (nameB m))) = [] := by
  rw [List.eq_nil_iff_forall_not_mem]
  intro p hp
  obtain ⟨h1, h2⟩ := lF.1 hp
  have hin : p ∈ aP l := lF.2 ⟨List.mem_of_mem_drop h1, h2⟩
  have hk := hle p hin
  obtain ⟨k, hk2⟩ := List.getElem?_of_mem h1
  rw [List.getElem?_drop] at hk2
  have hno := qdr h (nameB m) (by omega : bsOf l (nameB m) ≤ bsOf l (nameB m) + k) hk2
  have hnm := VD h2
  rcases Nat.lt_or_ge p.2 m with g | g
  ·exact hno (by rw [hnm]; exact qdZ hm g)
  ·have e : p.2 = m := by omega
   have hx : p.1.f0.toList = (nameB m).toList := by rw [hnm, e]
   have hb := OL h (nameB m) (List.mem_of_mem_drop h1) hx
   rw [(uZ _ _ _).2 ⟨p.1, hb, hx⟩] at hi
   cases hi
 have ht : aP (l.take (bsOf l (nameB m))) = aP l := by
  conv => rhs; rw [← List.take_append_drop (bsOf l (nameB m)) l, lQ, hd, List.append_nil]
 have e0 : aP ([] : List S67) = [] := List.filterMap_nil
 have hcs : aP [(⟨nameB m, ⟨#[]⟩, 0⟩ : S67)] = [((⟨nameB m, ⟨#[]⟩, 0⟩ : S67), m)] := (qJ (x := ⟨nameB m, ⟨#[]⟩, 0⟩) (n := m) (yA hm) []).trans (by rw [e0])
 rw [lQ, hd, List.append_nil, lQ, ht, hcs]
theorem VE (k : Nat) : readB SU (byt (⟨#[]⟩ : ByteArray)) k = ([], 0) := rfl
theorem yC {L R : Lg} {ds : List Bytes} {n m k : Nat} (h : WF L ds n m) (hs : gQ L k = (R, 0)) : WF R ds n m ∧ R.size = L.size ∧ R.l.length ≤ L.l.length + 1 ∧ ∃ a p, aP R.l = a ++ [p] ∧ (p.1.f1.size + k ≤ 262144 ∨ p.1.f1.size = 0) := by
 unfold gQ at hs
 split at hs
 ·rename_i hf
  obtain ⟨hs1, hz⟩ := Prod.mk.inj hs
  obtain ⟨h1, h2, h3, h4, h5⟩ := kT hz
  have hnx : L.nx.toNat = m := by rw [h.nx]; exact Int.toNat_natCast m
  rw [hnx] at hs1 h3 h4 h5 hz
  have hat : lI L.l (nameB m) (bsOf L.l (nameB m)) = false := by
   cases hh : lI L.l (nameB m) (bsOf L.l (nameB m)) with
   | false => rfl
   | true =>
    rw [hh] at h3
    unfold rfC at h3
    split at h3
    ·cases h3
    ·simp at h3
  have hle := (PU SU n _ ds m h.ch).2
  have e1 : (kC L.l L.dn L.fu L.fa (nameB m)).1 = L.l.take (bsOf L.l (nameB m)) ++ [(⟨nameB m, ⟨#[]⟩, 0⟩ : S67)] ++ L.l.drop (bsOf L.l (nameB m)) := by
   rw [kC, h4]
   simp
  have hpl : aP R.l = aP L.l ++ [((⟨nameB m, ⟨#[]⟩, 0⟩ : S67), m)] := by
   rw [← hs1]
   show aP (kC L.l L.dn L.fu L.fa (nameB m)).1 = _
   rw [e1]
   exact ZR h.right h.top hle hat
  have hch : chain SU n (aP R.l) ds m := by
   rw [hpl, ← List.append_nil ds]
   exact rU SU n _ _ ds [] m m h.ch ⟨rfl, [], [], rfl, VE m, rfl, rfl⟩
  have qgk : dV (aP R.l) = n := by
   rw [hpl]
   have hfn := h.first
   cases hps : aP L.l with
   | nil =>
    have hc := h.ch
    rw [hps] at hc
    obtain ⟨_, rfl⟩ := hc
    rfl
   | cons p r =>
    rw [hps] at hfn
    exact hfn
  refine ⟨⟨?_, ?_, ?_, ?_, ?_, qgk, hch, h.top, ?_, ?_⟩, ?_, ?_, _, _, hpl, .inr rfl⟩
  ·rw [← hs1]
   show bI (kC L.l L.dn L.fu L.fa (nameB m)).1 = true
   rw [e1]
   exact (xO h.right h3).1
  ·rw [← hs1]; exact h5
  ·rw [← hs1]
   show (if _ then _ else _) = _
   rw [if_pos hz]
   exact h.br
  ·rw [← hs1]; exact h.lo
  ·rw [← hs1]; exact h.hi
  ·rw [← hs1]; exact h.fr
  ·rw [← hs1]; exact h.nx
  ·rw [← hs1]; rfl
  ·rw [← hs1]
   show (kC L.l L.dn L.fu L.fa (nameB m)).1.length ≤ _
   rw [e1]
   simp only [List.length_append, List.length_take, List.length_drop, List.length_singleton]
   have := qas L.l (nameB m)
   omega
 ·rename_i hf
  obtain ⟨rfl, _⟩ := Prod.mk.inj hs
  refine ⟨h, rfl, Nat.le_succ _, ?_⟩
  unfold isFull at hf
  cases hl : sU L.l with
  | none => rw [hl] at hf; exact absurd trivial hf
  | some p =>
   rw [hl] at hf
   simp only at hf
   have hl' : (aP L.l).getLast? = some p := hl
   obtain ⟨a, ha⟩ := List.getLast?_eq_some_iff.1 hl'
   exact ⟨a, p, ha, .inl (by omega)⟩
theorem yT {l : List S67} {a : List Pl} {p : Pl} (h : aP l = a ++ [p]) : oZ l = p.1.f0 := by
 rw [oZ, sU, h, List.getLast?_append]
 rfl
theorem qd1 {L R : Lg} {ds : List Bytes} {n m : Nat} {a : List Pl} {p : Pl} {s d : ByteArray} (h : WF L ds n m) (hp : aP L.l = a ++ [p]) (hs : byt s = frame SU m (byt d)) (hd : d.size ≤ 65536) (hm : m < most) (hR : pV L s = (R, 0)) :
  WF R (ds ++ [byt d]) n (m + 1) ∧ R.size = L.size ∧ R.l.length = L.l.length ∧ ∃ f, aP R.l = a ++ [(f, p.2)] ∧ f.f0 = p.1.f0 ∧ f.f1 = p.1.f1 ++ s ∧ f.f2 = (f.f1.size : Int) := by
 unfold pV at hR
 rw [yT hp] at hR
 split at hR
 case isFalse hz => exact absurd (Prod.mk.inj hR).2 (by exact fun e => hz (by rw [hR]))
 rename_i hz
 split at hR
 case isFalse hz2 => exact absurd (Prod.mk.inj hR).2 (by exact fun e => hz2 (by rw [hR]))
 rename_i hz2
 obtain ⟨hR, _⟩ := Prod.mk.inj hR
 have hp' : aP L.l = a ++ p :: [] := hp
 obtain ⟨k1, k2, k3, k4⟩ := DR (L := L) hp' hz
 have hp2 : aP (fV L p.1.f0 s).1.l = a ++ ((⟨p.1.f0, p.1.f1 ++ s, p.1.f2⟩ : S67), p.2) :: [] := k2
 obtain ⟨j1, j2, j3, j4⟩ := qd0 (L := (fV L p.1.f0 s).1) hp2 hz2
 obtain ⟨d1, d2, k, c1, c2, c3⟩ := yB SU n a [p] ds m (by rw [← hp]; exact h.ch)
 obtain ⟨c4, e1, e2, rfl, c5, c6, c7⟩ := c2
 subst c6
 have hrm := qct (t := s) (d := byt d) c5 c7 hs (by rw [dL]; exact hd) hm
 have hpl : aP R.l = a ++ [((⟨p.1.f0, p.1.f1 ++ s, ((p.1.f1 ++ s).size : Int)⟩ : S67), p.2)] := by
  rw [← hR]
  exact j2
 have hch : chain SU n (aP R.l) (ds ++ [byt d]) (m + 1) := by
  rw [hpl, c3, List.append_nil, List.append_assoc]
  refine rU SU n a _ d1 (e1 ++ [byt d]) k (m + 1) c1 ⟨c4, e1 ++ [byt d], [], by simp, hrm, rfl, ?_⟩
  rw [List.length_append, List.length_singleton]
  omega
 have qgk : dV (aP R.l) = n := by
  rw [hpl]
  have hfn := h.first
  rw [hp] at hfn
  cases a with
  | nil => exact hfn
  | cons q r => exact hfn
 refine ⟨⟨?_, ?_, ?_, ?_, ?_, qgk, hch, by omega, ?_, ?_⟩, ?_, ?_, _, hpl, rfl, rfl, rfl⟩
 ·rw [← hR]; exact j1
 ·rw [← hR]; exact j3
 ·rw [← hR]
  exact (if_pos hz2).trans ((if_pos hz).trans h.br)
 ·rw [← hR]; exact h.lo
 ·rw [← hR]; exact h.hi
 ·rw [← hR]; exact h.fr
 ·rw [← hR]
  show L.nx + 1 = _
  rw [h.nx]
  rfl
 ·rw [← hR]; rfl
 ·rw [← hR]
  exact j4.trans k4
theorem KA {L R : Lg} {ds : List Bytes} {n m : Nat} {d : ByteArray} (h : WF L ds n m) (hR : bV L d = (R, 0)) : WF R (ds ++ [byt d]) n (m + 1) ∧ R.size = L.size ∧ R.l.length ≤ L.l.length + 1 ∧ d.size ≤ 65536 ∧ m < most := by
 rw [bV, if_pos h.okL, jG, h.br, if_neg (by simp)] at hR
 split at hR
 ·cases hR
 rename_i hd
 split at hR
 ·cases hR
 rename_i hm
 have hm2 : m < most := by
  rw [h.nx] at hm
  unfold most
  omega
 split at hR
 case isFalse hz => exact absurd (by rw [hR]) hz
 rename_i hz
 obtain ⟨L1, hL1⟩ : ∃ L1, gQ L (eX L.nx d).size = (L1, 0) := ⟨_, Prod.ext rfl hz⟩
 rw [hL1] at hR
 obtain ⟨w1, w2, w3, a, p, w4, w5⟩ := yC h hL1
 have hs : byt (eX L.nx d) = frame SU m (byt d) := by rw [h.nx]; exact tK m d
 obtain ⟨v1, v2, v3, _⟩ := qd1 w1 w4 hs (by omega) hm2 hR
 exact ⟨v1, by rw [v2, w2], by omega, by omega, hm2⟩
theorem PV (n : Nat) : (nameB n).size = 16 := by rw [← dL, nameB, qC, l9]
theorem qbD {l : List S67} (h : bI l = true) {n m : Nat} {ds : List Bytes} (hc : chain SU n (aP l) ds m) {p : Pl} (hp : p ∈ aP l) (hm : p.2 = m) : ∃ a, aP l = a ++ [p] ∧ p.1.f1.size = 0 := by
 obtain ⟨a, b, hab⟩ := List.append_of_mem hp
 rw [hab] at hc
 obtain ⟨d1, d2, k, c1, c2, c3⟩ := yB SU n a (p :: b) ds m hc
 obtain ⟨c4, e1, e2, rfl, c5, c6⟩ := c2
 have hle := (PU SU _ b e2 m c6).1
 have he1 : e1 = [] := List.length_eq_zero_iff.1 (by omega)
 subst he1
 have hsz : p.1.f1.size = 0 := by
  have := (tZ c5).1
  have h2 := congrArg List.length this
  rw [dL] at h2
  simpa [fJ] using h2
 cases b with
 | nil => exact ⟨a, hab, hsz⟩
 | cons q r =>
  exfalso
  obtain ⟨c7, _⟩ := c6
  have hq : q.2 = p.2 := by
   rw [c7, c4]
   rfl
  obtain ⟨g1, g2, g3, g4, g5⟩ := kD h hab
  have hqm : q ∈ aP (l.drop (bsOf l p.1.f0 + 1)) := by rw [← g5]; simp
  obtain ⟨q1, q2⟩ := lF.1 hqm
  obtain ⟨j, hj⟩ := List.getElem?_of_mem q1
  rw [List.getElem?_drop] at hj
  have hlt := sQ h (by omega : bsOf l p.1.f0 < bsOf l p.1.f0 + 1 + j) g1 hj
  rw [VD g3, VD q2, hq] at hlt
  exact qgj _ hlt
theorem ZT {L : Lg} {ds : List Bytes} {n m k : Nat} (h : WF L ds n m) (hu : L.fu = -1) (ha : L.fa = -1) (hk : k ≤ 65552) (hl : L.l.length < 64) : (gQ L k).2 = 0 ∧ (gQ L k).1.fu = -1 ∧ (gQ L k).1.fa = -1 := by
 unfold gQ
 split
 ·rename_i hf
  have hnx : L.nx.toNat = m := by rw [h.nx]; exact Int.toNat_natCast m
  rw [hnx]
  have hat : lI L.l (nameB m) (bsOf L.l (nameB m)) = false := by
   cases hh : lI L.l (nameB m) (bsOf L.l (nameB m)) with
   | false => rfl
   | true =>
    exfalso
    obtain ⟨x, hx, hxe⟩ := (uZ _ _ _).1 hh
    have hxn : x.f0 = nameB m := pR (by
     rw [ByteArray.toList_eq, ByteArray.toList_eq] at hxe
     exact hxe)
    have hmem : ((x, m) : Pl) ∈ aP L.l := lF.2 ⟨List.mem_of_getElem? hx, by show numOf x.f0 = some m; rw [hxn]; exact yA h.top⟩
    obtain ⟨a, e1, e2⟩ := qbD h.right h.ch hmem rfl
    have hlp : sU L.l = some (x, m) := by
     rw [sU, e1, List.getLast?_append]
     rfl
    unfold isFull at hf
    rw [hlp] at hf
    simp only at hf e2
    have := h.lo
    omega
  have hrf : rfC (nameB m) L.l.length (bsOf L.l (nameB m)) (lI L.l (nameB m) (bsOf L.l (nameB m))) = 0 := by
   unfold rfC
   rw [hat, if_neg, if_neg (by simp), if_neg (by omega)]
   rw [PV, wF]
   intro hh
   rcases hh with hh | hh
   ·have := congrArg List.length hh
    rw [l9] at this
    cases this
   ·omega
  rw [hu, ha, h.dn, kC, oP h.right, if_pos (by simpa using hrf)]
  exact ⟨rfl, rfl, rfl⟩
 ·exact ⟨rfl, hu, ha⟩
theorem PW {L : Lg} {ds : List Bytes} {n m : Nat} {a : List Pl} {p : Pl} {s : ByteArray} (h : WF L ds n m) (hu : L.fu = -1) (ha : L.fa = -1) (hp : aP L.l = a ++ [p]) (hs : p.1.f1.size + s.size ≤ 262144) : (pV L s).2 = 0 ∧ (pV L s).1.fu = -1 ∧ (pV L s).1.fa = -1 := by
 have hp' : aP L.l = a ++ p :: [] := hp
 obtain ⟨g1, g2, g3, _⟩ := kD h.right hp'
 have e1 : fV L p.1.f0 s = (chg L (L.l.set (bsOf L.l p.1.f0) ⟨p.1.f0, p.1.f1 ++ s, p.1.f2⟩, false, -1, -1, 0), 0) := by
  have hA : jC L.l L.dn L.fu L.fa p.1.f0 s = (L.l.set (bsOf L.l p.1.f0) ⟨p.1.f0, p.1.f1 ++ s, p.1.f2⟩, false, -1, -1, 0) := by
   rw [hu, ha, h.dn, jC, oP h.right, if_pos (by simp [rfW, g2, iC g1]; omega)]
   simp only [Int.toNat_natCast, iC g1]
  rw [fV, hA]
 have hz : (jC L.l L.dn L.fu L.fa p.1.f0 s).2.2.2.2 = 0 := by
  have := congrArg Prod.snd e1
  exact this
 obtain ⟨k1, k2, k3, k4⟩ := DR (L := L) hp' hz
 have hp2 : aP (fV L p.1.f0 s).1.l = a ++ ((⟨p.1.f0, p.1.f1 ++ s, p.1.f2⟩ : S67), p.2) :: [] := k2
 have hr2 : bI (fV L p.1.f0 s).1.l = true := k1
 obtain ⟨j1, j2, j3, _⟩ := kD hr2 hp2
 have hd2 : (fV L p.1.f0 s).1.dn = false ∧ (fV L p.1.f0 s).1.fu = -1 ∧ (fV L p.1.f0 s).1.fa = -1 := by rw [e1]; exact ⟨rfl, rfl, rfl⟩
 have e2 : (stepS (fV L p.1.f0 s).1 p.1.f0).2 = 0 ∧ (stepS (fV L p.1.f0 s).1 p.1.f0).1.fu = -1 ∧ (stepS (fV L p.1.f0 s).1 p.1.f0).1.fa = -1 := by
  simp only at j1 j2
  rw [stepS, hd2.1, hd2.2.1, hd2.2.2, rH, oP hr2, if_pos (by simp [j2])]
  exact ⟨rfl, rfl, rfl⟩
 unfold pV
 rw [yT hp, if_pos (by rw [e1]), if_pos e2.1]
 exact ⟨rfl, e2.2.1, e2.2.2⟩
theorem uD {L : Lg} {ds : List Bytes} {n m : Nat} {d : ByteArray} (h : WF L ds n m) (hu : L.fu = -1) (ha : L.fa = -1) (hd : d.size ≤ 65536) (hm : m < most) (hl : L.l.length < 64) :
  ∃ R, bV L d = (R, 0) ∧ R.fu = -1 ∧ R.fa = -1 := by
 have hfs : (eX L.nx d).size = 16 + d.size := by rw [h.nx]; exact xR m d
 obtain ⟨c1, c2, c3⟩ := ZT (k := (eX L.nx d).size) h hu ha (by omega) hl
 obtain ⟨L1, hL1⟩ : ∃ L1, gQ L (eX L.nx d).size = (L1, 0) := ⟨_, Prod.ext rfl c1⟩
 rw [hL1] at c2 c3
 obtain ⟨w1, w2, w3, a, p, w4, w5⟩ := yC h hL1
 obtain ⟨p1, p2, p3⟩ := PW (s := eX L.nx d) w1 c2 c3 w4 (by omega)
 refine ⟨(pV L1 (eX L.nx d)).1, ?_, p2, p3⟩
 rw [bV, if_pos h.okL, jG, h.br, if_neg (by simp), if_neg (by omega), if_neg (by rw [h.nx]; unfold most at hm; omega), hL1, if_pos rfl]
 exact Prod.ext rfl p1
def L0s (size : Int) : Lg := ⟨[], false, -1, -1, size, 1, 1, false⟩
theorem vJ : bI ([] : List S67) = true := by decide
theorem PX : aP ([] : List S67) = [] := List.filterMap_nil
theorem qd2 {size : Int} (h0 : 1 ≤ size) (h1 : size ≤ 262144) : WF (L0s size) [] 1 1 :=
 ⟨vJ, rfl, rfl, h0, h1, by show dV (aP []) = 1; rw [PX]; rfl, by show chain SU 1 (aP []) [] 1; rw [PX]; exact ⟨rfl, rfl⟩, by decide, rfl, rfl⟩
theorem qd3 {size : Int} (h0 : 1 ≤ size) (h1 : size ≤ 262144) : iP [] false (-1) (-1) size = (L0s size, [], 0) := by
 have h := (qd2 h0 h1).opens
 exact h
theorem qd4 {size : Int} (h : size < 1 ∨ 262144 < size) : iP [] false (-1) (-1) size = (Lz, [], 2) := by
 rw [iP, if_pos vJ, if_pos h]
end Go.Proofs.YtanonhipicoigaaGreatDoor.U
namespace Go.Proofs.YtanonhipicoigaaGreatDoor.U
open Go.RowKit Go.Proofs.YW.PrintWords Go.Proofs.YW.PrintLast Go.Proofs.YW.PrintMore
attribute [local go_sem] iJ iK jP jQ gX gY iW iY
end Go.Proofs.YtanonhipicoigaaGreatDoor.U
namespace Go.Proofs.YtanonhipicoigaaGreatDoor.U
open Go.RowKit Go.Proofs.YW.PrintWords Go.Proofs.YW.PrintLast Go.Proofs.YW.PrintMore Go.Proofs.YtanonhipicoigaaGreatDoor.Sp Go.Proofs.YtanonhipicoigaaGreatDoor.eP
theorem qjR {w : World} {ad : Addr} {n i : Nat} {l : List S62} {x : S62} (h : Kd.C k62 w (some ad) n l) (hx : l[i]? = some x) :
  w.cell? (ad.add (i * 2)) = some (.int .u64 x.f0) ∧ w.cell? ⟨(ad.add (i * 2)).block, (ad.add (i * 2)).off + 1, none⟩ = some (.string x.f1) := by
 have hi := (List.getElem?_eq_some_iff.1 hx).1
 obtain ⟨ad2, c, e, _, hK, hc0⟩ := Kd.zW h (⟨0, ⟨#[]⟩⟩ : S62) (i : Int) (by omega) (by have := h.1; omega)
 injection e with e
 subst e
 have hg : l.getD i (⟨0, ⟨#[]⟩⟩ : S62) = x := by simp [List.getD, hx]
 simp only [Int.toNat_natCast] at hK hc0
 rw [hg] at hK
 have hc : ∀ j u, c[j]? = some u → w.cell? (ad.add (i * 2 + j)) = some u := hc0
 obtain rfl := qcX hK
 exact ⟨hc 0 _ rfl, by rw [← lM _ _ 1 (by omega)]; exact hc 1 _ rfl⟩
theorem qg5 {w : World} {A : Option Addr} {n : Nat} {l : List S62} (h : Kd.C k62 w A n l) (hn : 0 < n) : ∃ ad, A = some ad := by
 obtain ⟨ad2, c, e, _⟩ := Kd.zW h (⟨0, ⟨#[]⟩⟩ : S62) 0 (by omega) (by omega)
 exact ⟨ad2, e⟩
end Go.Proofs.YtanonhipicoigaaGreatDoor.U
namespace Go.Proofs.YtanonhipicoigaaGreatDoor.U
open Go.RowKit Go.Proofs.YW.PrintWords Go.Proofs.YW.PrintLast Go.Proofs.YW.PrintMore
attribute [local go_sem] iJ iK jP jQ gX gY iW iY
mutual
def dG.j0 : Nat → ByteArray → Bool → Option (Int × Bool)
 | 0, _, _ => none
 | k + 1, x0, x13 => if x13 = true then (some (0, false)) else (dG.l0 k x0 0 8)
def dG.l0 : Nat → ByteArray → Int → Int → Option (Int × Bool)
 | 0, _, _, _ => none
 | k + 1, x0, x4, x5 => if x5 > 0 then (if 0 ≤ x5 then (if x5 < (x0.size : Int) then (dG.l0 k x0 (Go.bits .or .u64 (IntKind.u64.wrap (x4 * 256)) (IntKind.u64.wrap (bt x0 x5))) (wrap64 (x5 - 1))) else (none)) else (none)) else (some (x4, true))
end
def dG.f (k : Nat) (a0 : ByteArray) : Option (Int × Bool) := if (a0.size : Int) = 9 then (if 0 < (a0.size : Int) then (dG.j0 k a0 ((bt a0 0) != 65)) else (none)) else (dG.j0 k a0 true)
set_option maxHeartbeats 8000000 in
set_option maxRecDepth 100000 in
theorem dG.calls (k : Nat) (a0 : ByteArray) (r1 : Int) (r2 : Bool) (w : World) (h : dG.f k a0 = some (r1, r2)) :
    Calls Tryz.prog 98 #[.string a0] w fun e w' => e = .returned (.tuple #[.int .u64 r1, .bool r2]) ∧ fA w w' := by
  have H : (if (a0.size : Int) = 9 then (if 0 < (a0.size : Int) then (dG.j0 k a0 ((bt a0 0) != 65)) else (none)) else (dG.j0 k a0 true)) = some (r1, r2) := h
  clear h
  have HC2 := aA.mk H
  clear H
  go_enter Tryz.func98, Tryz.ntmps98
  go_upto_region 1 with (fail)
  go_cut [13] (fun v13 wc => ∃ (kq : Nat) (fP : Bool), v13 = .bool fP ∧ aA (dG.j0 kq a0 fP = some (r1, r2)) ∧ aA (kq ≤ k) ∧ fA w wc)
  case first =>
    have H := HC2.out
    clear HC2
    by_cases c3 : (a0.size : Int) = 9
    · rw [if_pos c3] at H
      have MP : ((a0.size : Int) == 9) = true := beq_iff_eq.mpr c3
      have XD : ((a0.size : Int) != 9) = false := bne_eq_false_iff_eq.mpr c3
      clear c3
      (first | rw [MP] | (simp only [aI, aJ]; rw [MP]) | skip)
      by_cases c4 : 0 < (a0.size : Int)
      · rw [if_pos c4] at H
        have qcn : decide (0 < (a0.size : Int)) = true := decide_eq_true c4
        have qg6 : decide (0 < a0.size) = true := decide_eq_true (by omega)
        clear c4
        have H' := aA.mk H
        clear H
        have p5 : 0 ≤ (0 : Int) := (by omega)
        have q5 : 0 < a0.size := (by have : (0 : Int) < (a0.size : Int) := of_decide_eq_true (by first | (with_reducible assumption) | assumption); omega)
        have hx5 : ∀ h : 0 < a0.size, ((a0[0]'h).toNat : Int) = bt a0 0 := qan a0 0
        clear p5
        have qi5 : (0 < (a0.size : Int)) = True := eq_true (of_decide_eq_true (by first | (with_reducible assumption) | assumption))
        replace q5 := eq_true q5
        go_wp2
        go_meet
        case rel => exact ⟨_, (((bt a0 0) != 65)), (by first | rfl | (simp; done) | (simp [*]; done)), H', ⟨by first | omega | exact Nat.le_refl _⟩, by repeat (first | exact fA.refl _ | apply fA.step)⟩
      · rw [if_neg c4] at H
        exact absurd H (by simp)
    · rw [if_neg c3] at H
      have MP : ((a0.size : Int) == 9) = false := beq_eq_false_iff_ne.mpr c3
      have XD : ((a0.size : Int) != 9) = true := bne_iff_ne.mpr c3
      (first | rw [MP] | (simp only [aI, aJ]; rw [MP]) | skip)
      have H' := aA.mk H
      clear H
      go_wp2
      go_meet
      case rel => exact ⟨_, (true), (by first | rfl | (simp; done) | (simp [*]; done)), H', ⟨by first | omega | exact Nat.le_refl _⟩, by repeat (first | exact fA.refl _ | apply fA.step)⟩
  case rest =>
    clear HC2
    try clear p2
    try clear c3
    try clear MP
    try clear XD
    try clear c4
    try clear qcn
    try clear qg6
    try clear p5
    try clear q5
    try clear hx5
    try clear qi5
    try clear p5
    try clear q5
    obtain ⟨kq, fP, rfl, HA, HJ1, ⟨mc1, rfl⟩⟩ := hcut
    cases kq with
    | zero => exact absurd HA.out (by simp [dG.j0])
    | succ kj1 =>
      have H := HA.out
      clear HA
      simp only [dG.j0] at H
      by_cases c6 : fP = true
      · subst c6
        have H1 : (some (0, false)) = some (r1, r2) := by rw [if_pos rfl] at H; exact H
        clear H
        have H := H1
        clear H1
        simp only [Option.some.injEq, Prod.mk.injEq] at H
        obtain ⟨rfl, rfl⟩ := H
        go_wp2
        go_ret2
        exact ⟨by first | rfl | (simp; done) | (simp [*]; done), by repeat (first | exact fA.refl _ | apply fA.step)⟩
      · replace c6 := Bool.eq_false_iff.mpr c6
        subst c6
        have H1 : (dG.l0 kj1 a0 0 8) = some (r1, r2) := by rw [if_neg (show ¬ (false = true) by decide)] at H; exact H
        clear H
        have H := H1
        clear H1
        have H' := aA.mk H
        clear H
        go_wp2
        go_loopg [4, 5] kj1 (fun kq v4 v5 w' => ∃ (MQ : Int) (DT : Int), v4 = .int .u64 MQ ∧ v5 = .int .i64 DT ∧ aA (dG.l0 kq a0 MQ DT = some (r1, r2)) ∧ aA (kq ≤ kj1) ∧ fA w w')
        case atStart => exact ⟨(0), (8), (by first | rfl | (simp; done) | (simp [*]; done)), (by first | rfl | (simp; done) | (simp [*]; done)), H', ⟨Nat.le_refl _⟩, by repeat (first | exact fA.refl _ | apply fA.step)⟩
        case round =>
          clear H'
          try clear c1
          try clear p2
          try clear c3
          try clear MP
          try clear XD
          try clear c4
          try clear qcn
          try clear qg6
          try clear p5
          try clear q5
          try clear hx5
          try clear qi5
          try clear c6
          try clear p2
          try clear p5
          try clear q5
          obtain ⟨MQ, DT, rfl, rfl, HA, HK2, ⟨m2, rfl⟩⟩ := hrel
          cases gk with
          | zero => exact absurd HA.out (by simp [dG.l0])
          | succ k2 =>
            have H := HA.out
            clear HA
            simp only [dG.l0] at H
            by_cases c7 : DT > 0
            · rw [if_pos c7] at H
              have qg7 : decide (0 < DT) = true := decide_eq_true c7
              clear c7
              by_cases c8 : 0 ≤ DT
              · rw [if_pos c8] at H
                have qg8 : decide (0 ≤ DT) = true := decide_eq_true c8
                clear c8
                by_cases c9 : DT < (a0.size : Int)
                · rw [if_pos c9] at H
                  have qgS : decide (DT < (a0.size : Int)) = true := decide_eq_true c9
                  clear c9
                  have H' := aA.mk H
                  clear H
                  have p10 : 0 ≤ (DT : Int) := of_decide_eq_true (by first | (with_reducible assumption) | assumption)
                  have q10 : DT < (a0.size : Int) := of_decide_eq_true (by first | (with_reducible assumption) | assumption)
                  have qkv := qan a0 DT
                  replace p10 := eq_true p10
                  replace q10 := eq_true q10
                  go_wp2
                  go_roundg k2
                  case measure => have := HJ1.out; have := HK2.out; omega
                  case rel => exact ⟨(Go.bits .or .u64 (IntKind.u64.wrap (MQ * 256)) (IntKind.u64.wrap (bt a0 DT))), (wrap64 (DT - 1)), (by first | rfl | (simp; done) | (simp [*]; done)), (by first | rfl | (simp; done) | (simp [*]; done)), H', ⟨by have := HJ1.out; have := HK2.out; omega⟩, by repeat (first | exact fA.refl _ | apply fA.step)⟩
                · rw [if_neg c9] at H
                  exact absurd H (by simp)
              · rw [if_neg c8] at H
                exact absurd H (by simp)
            · rw [if_neg c7] at H
              have qg7 : decide (0 < DT) = false := decide_eq_false c7
              clear c7
              simp only [Option.some.injEq, Prod.mk.injEq] at H
              obtain ⟨rfl, rfl⟩ := H
              go_wp2
              go_ret2
              exact ⟨by first | rfl | (simp; done) | (simp [*]; done), by repeat (first | exact fA.refl _ | apply fA.step)⟩
end Go.Proofs.YtanonhipicoigaaGreatDoor.U
