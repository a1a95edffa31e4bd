import Derived.Test.YtanonhipicoigaaGreatDoorZQao
import Derived.Test.YtanonhipicoigaaGreatDoorZQai
import Derived.Test.YtanonhipicoigaaGreatDoorZQal
import Derived.BigRegion
import Derived.LoopN
import Derived.Deep.DeepCutAuto
import Derived.WalkSpells
import Derived.Test.YtanonhipicoigaaGreatDoorZQag
set_option linter.unusedVariables false
set_option linter.unusedSimpArgs false
namespace Go.Proofs.YtanonhipicoigaaGreatDoor.U
open Go.RowKit Go.Proofs.YW.PrintWords Go.Proofs.YW.PrintLast Go.Proofs.YW.PrintMore Go.Proofs.YtanonhipicoigaaGreatDoor.Sp Go.Proofs.YtanonhipicoigaaGreatDoor.eP
def gG : Lg → List Pl → Int → Lg × Int × List Pl
 | L, p :: p2 :: r, q => if (p2.2 : Int) ≤ q then
   if (iF L.l L.dn L.fu L.fa p.1.f0).2.2.2.2 = 0 then gG (chg L (iF L.l L.dn L.fu L.fa p.1.f0)) (p2 :: r) q else (chg L (iF L.l L.dn L.fu L.fa p.1.f0), (iF L.l L.dn L.fu L.fa p.1.f0).2.2.2.2, [])
  else (L, 0, p :: p2 :: r)
 | L, [p], q => (L, 0, [p])
 | L, [], q => (L, 0, [])
def xU (L : Lg) (ps : List Pl) : Lg := match ps with | [] => L | p :: _ => { L with fr := (p.2 : Int) }
noncomputable def uM (L : Lg) (q : Int) : Lg × Int :=
 if L.br = true then (L, 6)
 else if L.nx < q then (L, 2)
 else if (gG L (aP L.l) q).2.1 = 0 then (xU (gG L (aP L.l) q).1 (gG L (aP L.l) q).2.2, 0)
 else ((gG L (aP L.l) q).1, (gG L (aP L.l) q).2.1)
theorem drop_step {L : Lg} {rest : List Pl} {q : Int} {p p2 : Pl} {D : O9} (h0 : rest[0]? = some p) (h1 : rest[1]? = some p2) (hq : (p2.2 : Int) ≤ q) (hD : D = iF L.l L.dn L.fu L.fa p.1.f0) :
  gG L rest q = if D.2.2.2.2 = 0 then gG (chg L D) (rest.drop 1) q else (chg L D, D.2.2.2.2, []) := by
 match rest, h0, h1 with
 | a :: b :: r, h0, h1 =>
  simp only [List.getElem?_cons_zero, List.getElem?_cons_succ, Option.some.injEq] at h0 h1
  subst h0 h1 hD
  rw [gG, if_pos hq]
  rfl
theorem Y3 {L : Lg} {rest : List Pl} {q : Int} (h : ¬ 1 < rest.length) : gG L rest q = (L, 0, rest) := by
 match rest, h with
 | [], _ => rfl
 | [p], _ => rfl
 | p :: p2 :: r, h => simp at h
theorem Y4 {L : Lg} {rest : List Pl} {q : Int} {p2 : Pl} (h1 : rest[1]? = some p2) (hq : ¬ (p2.2 : Int) ≤ q) : gG L rest q = (L, 0, rest) := by
 match rest, h1 with
 | a :: b :: r, h1 =>
  simp only [List.getElem?_cons_zero, List.getElem?_cons_succ, Option.some.injEq] at h1
  subst h1
  rw [gG, if_neg hq]
set_option maxHeartbeats 8000000 in
set_option maxRecDepth 100000 in
theorem qeN (b : World) (gl g0 g1 gv : Nat) (l : List S67) (dn : Bool) (fu fa size fr : Int) (n : Nat) (br : Bool) (q : Int) (A0 : Option Addr) (c0 : Nat) (hok : bI l = true) (hG : Gl b) (hn : n < 18446744073709551616) (hq0 : 0 ≤ q) :
  RQ b gl 84 #[.pointer (some ⟨g0, 0, none⟩), .pointer (some ⟨g1, 0, none⟩), .pointer (some ⟨gv, 0, none⟩)] ⟨l, dn, fu, fa, size, fr, (n : Int), br⟩ [box g0 [.slice A0 l.length c0, .bool dn, .int .i64 fu, .int .i64 fa, .int .i64 size, .int .u64 fr, .int .u64 (n : Int), .bool br] 30, box g1 [.int .u64 q] 28, box gv [.pointer (some ⟨gl, 0, none⟩)] 131] (uM ⟨l, dn, fu, fa, size, fr, (n : Int), br⟩ q).1 (uM ⟨l, dn, fu, fa, size, fr, (n : Int), br⟩ q).2 := by
 intro A c w ts H0
 have HOK := aA.mk hok
 have HG := aA.mk hG
 have hlen : l.length ≤ 64 := jV hok
 clear hok hG
 obtain ⟨R, hR⟩ : ∃ R, R = uM ⟨l, dn, fu, fa, size, fr, (n : Int), br⟩ q := ⟨_, rfl⟩
 rw [← hR]
 have HR := aA.mk hR
 clear hR
 have H : aA (Sep b w (box gl [.slice A l.length c, .bool dn, .int .i64 fu, .int .i64 fa, .int .i64 size, .int .u64 fr, .int .u64 (n : Int), .bool br] 134 :: row k67 67 (.slice A (l).length c) l :: box g0 [.slice A0 l.length c0, .bool dn, .int .i64 fu, .int .i64 fa, .int .i64 size, .int .u64 fr, .int .u64 (n : Int), .bool br] 30 :: box g1 [.int .u64 q] 28 :: box gv [.pointer (some ⟨gl, 0, none⟩)] 131 :: ts)) := H0
 clear H0
 have c_l := H.out.cell (g := gl) aH
 have c_m := H.out.cell (g := g0) mem2
 have c_t := H.out.cell (g := g1) mem3
 have c_v := H.out.cell (g := gv) bM
 go_enter Tryz.func84, Tryz.ntmps84
 cases br with
 | true =>
  go_wp2_with fail
  refine (GX 6 _).mono ?_
  rintro e w_ ⟨rfl, rfl⟩
  have hV : R = (⟨l, dn, fu, fa, size, fr, (n : Int), true⟩, 6) := by rw [HR.out, uM, if_pos rfl]
  show _ ∧ _
  rw [hV]
  exact ⟨rfl, .inr ⟨show (6 : Int) ≠ 0 by decide, rfl⟩, A, c, H⟩
 | false =>
  go_wp2_with fail
  refine (xQ 6 _).mono ?_
  rintro e w_ ⟨rfl, rfl⟩
  by_cases hx : (n : Int) < q
  ·
   have hq2 : decide (q ≤ (n : Int)) = false := decide_eq_false (by omega)
   go_wp2_with fail
   try simp only [hq2]
   refine (GX 2 _).mono ?_
   rintro e w_ ⟨rfl, rfl⟩
   have hV : R = (⟨l, dn, fu, fa, size, fr, (n : Int), false⟩, 2) := by rw [HR.out, uM, if_neg (by simp), if_pos hx]
   show _ ∧ _
   rw [hV]
   exact ⟨rfl, .inr ⟨show (2 : Int) ≠ 0 by decide, rfl⟩, A, c, H⟩
  ·
   have hq2 : decide (q ≤ (n : Int)) = true := decide_eq_true (by omega)
   go_wp2_with fail
   try simp only [hq2]
   refine (xQ 2 _).mono ?_
   rintro e w_ ⟨rfl, rfl⟩
   obtain ⟨ps, hps⟩ : ∃ ps, ps = aP l := ⟨_, rfl⟩
   have hRV : R = (if (gG ⟨l, dn, fu, fa, size, fr, (n : Int), false⟩ ps q).2.1 = 0 then (xU (gG ⟨l, dn, fu, fa, size, fr, (n : Int), false⟩ ps q).1 (gG ⟨l, dn, fu, fa, size, fr, (n : Int), false⟩ ps q).2.2, 0) else ((gG ⟨l, dn, fu, fa, size, fr, (n : Int), false⟩ ps q).1, (gG ⟨l, dn, fu, fa, size, fr, (n : Int), false⟩ ps q).2.1)) := by
    rw [HR.out, uM, if_neg (by simp), if_neg (by show ¬ ((n : Int) < q); omega), hps]
   have HRV := aA.mk hRV
   have PA := aA.mk (fun A c w hr hc hG => places_any A c l dn fu fa w hr hc hlen (J6 HOK.out) hG)
   rw [← hps] at PA
   have hpl : ps.length ≤ 64 := by
    have := oW l
    rw [← hps] at this
    omega
   have HPB : aA (∀ p ∈ ps, p.2 ≤ most) := ⟨fun p hp => (pG HOK.out hps hp).2.1⟩
   clear hps HR hRV hq2
   go_wp2_with fail
   refine ((PA.out A c _ (H.out.reads mem1).2.2 (H.out.reads mem1).2.1 (HG.out.below H.out.below)).mono ?_)
   rintro e wd1 ⟨v_, rfl, ho_, hb_⟩
   obtain ⟨Aq, cq, eo_⟩ := Kd.dU ho_
   subst eo_
   have n_ : aA (Sep b wd1 (row dZ 139 (.slice Aq (ps).length cq) ps :: box gl [.slice A l.length c, .bool dn, .int .i64 fu, .int .i64 fa, .int .i64 size, .int .u64 fr, .int .u64 (n : Int), .bool false] 134 :: row k67 67 (.slice A (l).length c) l :: box g0 [.slice A0 l.length c0, .bool dn, .int .i64 fu, .int .i64 fa, .int .i64 size, .int .u64 fr, .int .u64 (n : Int), .bool false] 30 :: box g1 [.int .u64 q] 28 :: box gv [.pointer (some ⟨gl, 0, none⟩)] 131 :: ts)) := ⟨Sep.iL H.out hb_ ho_ vG⟩
   clear H c_l c_m c_t c_v
   have H := n_
   clear n_
   have c_l := H.out.cell (g := gl) mem1
   have c_m := H.out.cell (g := g0) mem3
   have c_t := H.out.cell (g := g1) bM
   have c_v := H.out.cell (g := gv) dM
   clear ho_ hb_
   go_wp2_with fail
   go_loopw [3] (fun v3 wr => ∃ (L : Lg) (rest : List Pl) (A5 : Option Addr) (c5 : Nat) (A4 : Option Addr) (c4 : Nat), v3 = .slice A5 rest.length c5 ∧ rest.length ≤ c5 ∧ rest.length ≤ 64 ∧ aA (∀ p ∈ rest, p.2 ≤ most) ∧ aA (∀ W, Kd.C dZ W Aq ps.length ps → Kd.C dZ W A5 rest.length rest) ∧ aA (gG ⟨l, dn, fu, fa, size, fr, (n : Int), false⟩ ps q = gG L rest q) ∧ aA (Sep b wr (row dZ 139 (.slice Aq (ps).length cq) ps :: box gl [.slice A4 L.l.length c4, .bool L.dn, .int .i64 L.fu, .int .i64 L.fa, .int .i64 L.size, .int .u64 L.fr, .int .u64 L.nx, .bool L.br] 134 :: row k67 67 (.slice A4 (L.l).length c4) L.l :: box g0 [.slice A0 l.length c0, .bool dn, .int .i64 fu, .int .i64 fa, .int .i64 size, .int .u64 fr, .int .u64 (n : Int), .bool false] 30 :: box g1 [.int .u64 q] 28 :: box gv [.pointer (some ⟨gl, 0, none⟩)] 131 :: ts)))
    (fun v3 _ => match v3 with | .slice _ k _ => k | _ => 0)
   case atStart => exact ⟨⟨l, dn, fu, fa, size, fr, (n : Int), false⟩, ps, Aq, cq, A, c, rfl, (H.out.reads aH).2.1, hpl, HPB, ⟨fun W h => h⟩, ⟨rfl⟩, H⟩
   case round =>
    clear H c_l c_m c_t c_v
    obtain ⟨L, rest, A5, c5, A4, c4, rfl, hc5, hrl, qgR, HC5, HDA, H⟩ := hrel
    have c_l := H.out.cell (g := gl) mem1
    have c_m := H.out.cell (g := g0) mem3
    have c_t := H.out.cell (g := g1) bM
    have c_v := H.out.cell (g := gv) dM
    by_cases hl1 : 1 < rest.length
    ·
     obtain ⟨p, hp⟩ : ∃ p, rest[0]? = some p := ⟨_, List.getElem?_eq_getElem (by omega)⟩
     obtain ⟨a5, e1⟩ := J3 (HC5.out _ (H.out.reads (A := Aq) aH).2.2) (by omega)
     subst e1
     obtain ⟨h0, h1, h2, h3⟩ := tN (HC5.out _ (H.out.reads (A := Aq) aH).2.2) hp
     have ea : a5.add 0 = a5 := by simp [Addr.add]
     simp only [Nat.zero_mul, ea] at h0 h1 h2 h3
     have HP0 := aA.mk hp
     clear ea
     obtain ⟨p2, hp2⟩ : ∃ p2, rest[1]? = some p2 := ⟨_, List.getElem?_eq_getElem (by omega)⟩
     obtain ⟨k0, k1, k2, k3⟩ := tN (HC5.out _ (H.out.reads (A := Aq) aH).2.2) hp2
     simp only [Nat.one_mul] at k0 k1 k2 k3
     have k4 : wr.cell? ⟨a5.block, a5.off + 4 + 3, none⟩ = some (.int .u64 (p2.2 : Int)) := k3
     have HP2 := aA.mk hp2
     have qks : p2.2 ≤ 4611686018427387904 := qgR.out p2 (List.mem_of_getElem? hp2)
     have q1 : decide ((1 : Int) < (rest.length : Int)) = true := decide_eq_true (by omega)
     have q5 : (1 : Int) < (rest.length : Int) := by omega
     clear hp hp2 k0 k1 k2 k3
     by_cases hq2 : (p2.2 : Int) ≤ q
     ·
      obtain ⟨D, hD⟩ : ∃ D, D = iF L.l L.dn L.fu L.fa p.1.f0 := ⟨_, rfl⟩
      have HDS := aA.mk (drop_step HP0.out HP2.out hq2 hD)
      have HD := aA.mk hD
      clear hD
      have q2 := decide_eq_true hq2
      go_upto_region 3 with fail
      go_quiet (fail)
      clear h0 h1 h2 h3 k4
      have hl00 : 0 < rest.length := by omega
      go_upto_region 4 with fail
      refine OD (rs := (row dZ 139 (.slice Aq (ps).length cq) ps :: box gl [.slice A4 L.l.length c4, .bool L.dn, .int .i64 L.fu, .int .i64 L.fa, .int .i64 L.size, .int .u64 L.fr, .int .u64 L.nx, .bool L.br] 134 :: row k67 67 (.slice A4 (L.l).length c4) L.l :: box g0 [.slice A0 l.length c0, .bool dn, .int .i64 fu, .int .i64 fa, .int .i64 size, .int .u64 fr, .int .u64 (n : Int), .bool false] 30 :: box g1 [.int .u64 q] 28 :: box gv [.pointer (some ⟨gl, 0, none⟩)] 131 :: ts)) (Sep.drewN H.out _) ?_
      intro wd2 n_
      clear H c_l c_m c_t c_v
      have H := n_
      clear n_
      have c_l := H.out.cell (g := gl) mem1
      have c_m := H.out.cell (g := g0) mem3
      have c_t := H.out.cell (g := g1) bM
      have c_v := H.out.cell (g := gv) dM
      refine gK (n := 15) (S := fun w' => (∀ j : Nat, w'.cell? ⟨gv, j, none⟩ = [.pointer (some ⟨gl, 0, none⟩)][j]?) ∧ (∀ j : Nat, w'.cell? ⟨gl, j, none⟩ = [.slice A4 L.l.length c4, .bool L.dn, .int .i64 L.fu, .int .i64 L.fa, .int .i64 L.size, .int .u64 L.fr, .int .u64 L.nx, .bool L.br][j]?) ∧ w'.cell? a5 = some (.string p.1.f0) ∧ Sp.Sep b w' (row dZ 139 (.slice Aq (ps).length cq) ps :: box gl [.slice A4 L.l.length c4, .bool L.dn, .int .i64 L.fu, .int .i64 L.fa, .int .i64 L.size, .int .u64 L.fr, .int .u64 L.nx, .bool L.br] 134 :: row k67 67 (.slice A4 (L.l).length c4) L.l :: box g0 [.slice A0 l.length c0, .bool dn, .int .i64 fu, .int .i64 fa, .int .i64 size, .int .u64 fr, .int .u64 (n : Int), .bool false] 30 :: box g1 [.int .u64 q] 28 :: box gv [.pointer (some ⟨gl, 0, none⟩)] 131 :: ts)) (ds := [14]) #[false, false, false, false, false, false, false, false, false, false, false, false, false, false, false] (by kernel_rfl) rfl rfl ⟨(fun j => ((Sep.drew H.out)).cell (g := gv) dM j), (fun j => ((Sep.drew H.out)).cell (g := gl) mem1 j), (by have h := (tN (HC5.out _ (Sep.reads (A := Aq) (Sep.drew H.out) aH).2.2) HP0.out).1; rwa [show a5.add (0 * 4) = a5 by simp [Addr.add]] at h), (Sep.drew H.out)⟩ (fun hHeld => ?_)
      refine aQ (i := 6) (N := some 36) (v := ?_) (a' := ?_) #[false, false, false, false, false, false, true, false, false, false, false, false, false, false, false] rfl rfl (by kernel_rfl) (fun _ _ _ h => h) (Or.inl ⟨by rfl, ?_⟩) ?_ ?_
      rotate_left
      ·intro w'
       go_simp
       with_reducible rfl
      rotate_left
      ·simp only [Act.put, zA, zZ, zS, aI, aJ]
       rfl
      refine aQ (i := 7) (N := some 37) (v := ?_) (a' := ?_) #[false, false, false, false, false, false, true, true, false, false, false, false, false, false, false] rfl rfl (by kernel_rfl) (fun _ _ _ h => h) (Or.inl ⟨by rfl, ?_⟩) ?_ ?_
      rotate_left
      ·intro w'
       go_simp
       with_reducible rfl
      rotate_left
      ·simp only [Act.put, zA, zZ, zS, aI, aJ]
       rfl
      refine aQ (i := 8) (N := some 38) (v := ?_) (a' := ?_) #[false, false, false, false, false, false, true, true, true, false, false, false, false, false, false] rfl rfl (by kernel_rfl) (fun _ _ _ h => h) (Or.inl ⟨by rfl, ?_⟩) ?_ ?_
      rotate_left
      ·intro w'
       go_simp
       with_reducible rfl
      rotate_left
      ·simp only [Act.put, zA, zZ, zS, aI, aJ]
       rfl
      refine aQ (i := 9) (N := some 39) (v := ?_) (a' := ?_) #[false, false, false, false, false, false, true, true, true, true, false, false, false, false, false] rfl rfl (by kernel_rfl) (fun _ _ _ h => h) (Or.inl ⟨by rfl, ?_⟩) ?_ ?_
      rotate_left
      ·intro w'
       go_simp
       with_reducible rfl
      rotate_left
      ·simp only [Act.put, zA, zZ, zS, aI, aJ]
       rfl
      refine dD (i := 0) (N := some 30) (v := ?_) (a' := ?_) #[true, false, false, false, false, false, true, true, true, true, false, false, false, false, false] rfl rfl (by kernel_rfl) (fun _ _ _ h => h) (Or.inl ⟨by rfl, ?_⟩) hHeld ?_ ?_
      rotate_left
      ·rintro w' ⟨s0, s1, s2, s3⟩
       go_simp
       with_reducible rfl
      rotate_left
      ·simp only [Act.put, zA, zZ, zS, aI, aJ]
       rfl
      refine dD (i := 1) (N := some 31) (v := ?_) (a' := ?_) #[true, true, false, false, false, false, true, true, true, true, false, false, false, false, false] rfl rfl (by kernel_rfl) (fun _ _ _ h => h) (Or.inl ⟨by rfl, ?_⟩) hHeld ?_ ?_
      rotate_left
      ·rintro w' ⟨s0, s1, s2, s3⟩
       go_simp
       with_reducible rfl
      rotate_left
      ·simp only [Act.put, zA, zZ, zS, aI, aJ]
       rfl
      refine aQ (i := 2) (N := some 32) (v := ?_) (a' := ?_) #[true, true, true, false, false, false, true, true, true, true, false, false, false, false, false] rfl rfl (by kernel_rfl) (fun _ _ _ h => h) (Or.inl ⟨by rfl, ?_⟩) ?_ ?_
      rotate_left
      ·intro w'
       go_simp
       with_reducible rfl
      rotate_left
      ·simp only [Act.put, zA, zZ, zS, aI, aJ]
       rfl
      refine aQ (i := 3) (N := some 33) (v := ?_) (a' := ?_) #[true, true, true, true, false, false, true, true, true, true, false, false, false, false, false] rfl rfl (by kernel_rfl) (fun _ _ _ h => h) (Or.inl ⟨by rfl, ?_⟩) ?_ ?_
      rotate_left
      ·intro w'
       go_simp
       with_reducible rfl
      rotate_left
      ·simp only [Act.put, zA, zZ, zS, aI, aJ]
       rfl
      refine aQ (i := 4) (N := some 34) (v := ?_) (a' := ?_) #[true, true, true, true, true, false, true, true, true, true, false, false, false, false, false] rfl rfl (by kernel_rfl) (fun _ _ _ h => h) (Or.inl ⟨by rfl, ?_⟩) ?_ ?_
      rotate_left
      ·intro w'
       go_simp
       with_reducible rfl
      rotate_left
      ·simp only [Act.put, zA, zZ, zS, aI, aJ]
       rfl
      refine dD (i := 5) (N := some 35) (v := ?_) (a' := ?_) #[true, true, true, true, true, true, true, true, true, true, false, false, false, false, false] rfl rfl (by kernel_rfl) (fun _ _ _ h => h) (Or.inl ⟨by rfl, ?_⟩) hHeld ?_ ?_
      rotate_left
      ·rintro w' ⟨s0, s1, s2, s3⟩
       go_simp
       with_reducible rfl
      rotate_left
      ·simp only [Act.put, zA, zZ, zS, aI, aJ]
       rfl
      refine dD (i := 10) (N := some 40) (v := ?_) (a' := ?_) #[true, true, true, true, true, true, true, true, true, true, true, false, false, false, false] rfl rfl (by kernel_rfl) (fun _ _ _ h => h) (Or.inl ⟨by rfl, ?_⟩) hHeld ?_ ?_
      rotate_left
      ·rintro w' ⟨s0, s1, s2, s3⟩
       go_simp
       with_reducible rfl
      rotate_left
      ·simp only [Act.put, zA, zZ, zS, aI, aJ]
       rfl
      refine lX (i := 11) (N := some 41) #[true, true, true, true, true, true, true, true, true, true, true, true, false, false, false] rfl rfl (by kernel_rfl) (by decide) (fun K hK => ?_)
      refine qM Tryz.func73 (by kernel_rfl) rfl #[.agg #[.slice A4 L.l.length c4, .bool L.dn, .int .i64 L.fu, .int .i64 L.fa], .string p.1.f0] (by rfl) rfl rfl (by simp only [List.map_toArray, List.map_cons, List.map_nil]; rfl) ?_
      with_reducible refine (o9.calls A4 c4 L.l L.dn L.fu L.fa p.1.f0 D.1 D.2.1 D.2.2.1 D.2.2.2.1 D.2.2.2.2 _ (Sep.reads hHeld.2.2.2 mem2).2.2 (Sep.reads hHeld.2.2.2 mem2).2.1 (by rw [xA, ← HD.out])).mono ?_
      rintro e w5 ⟨v_, rfl, ho_, uK⟩
      obtain ⟨A6, c6, eo_⟩ := Kd.dU ho_
      subst eo_
      have HN3 := aA.mk (Sep.iL hHeld.2.2.2 uK ho_ kN)
      refine ⟨_, rfl, ?_⟩
      refine hK.out _ _ ⟨(fun j => ((Sep.step hHeld.2.2.2 uK)).cell (g := gv) dM j), (fun j => ((Sep.step hHeld.2.2.2 uK)).cell (g := gl) mem1 j), (by have h := (tN (HC5.out _ (Sep.reads (A := Aq) (Sep.step hHeld.2.2.2 uK) aH).2.2) HP0.out).1; rwa [show a5.add (0 * 4) = a5 by simp [Addr.add]] at h), (Sep.step hHeld.2.2.2 uK)⟩ (fun hHeld => ?_)
      clear hK K
      refine fO (a' := ?_) ?_ ?_
      rotate_left
      ·show Act.put _ (some 41) _ = _
       simp only [Act.put, zA, zZ, zS, aI, aJ]
       rfl
      refine aQ (i := 12) (N := some 42) (v := ?_) (a' := ?_) #[true, true, true, true, true, true, true, true, true, true, true, true, true, false, false] rfl rfl (by kernel_rfl) (fun _ _ _ h => h) (Or.inl ⟨by rfl, ?_⟩) ?_ ?_
      rotate_left
      ·intro w'
       go_simp
       with_reducible rfl
      rotate_left
      ·simp only [Act.put, zA, zZ, zS, aI, aJ]
       rfl
      refine aQ (i := 13) (N := some 43) (v := ?_) (a' := ?_) #[true, true, true, true, true, true, true, true, true, true, true, true, true, true, false] rfl rfl (by kernel_rfl) (fun _ _ _ h => h) (Or.inl ⟨by rfl, ?_⟩) ?_ ?_
      rotate_left
      ·intro w'
       go_simp
       with_reducible rfl
      rotate_left
      ·simp only [Act.put, zA, zZ, zS, aI, aJ]
       rfl
      refine o7 (i := 14) (N := some 44) #[true, true, true, true, true, true, true, true, true, true, true, true, true, true, true] rfl rfl (by kernel_rfl) (by decide) (fun K hK => ?_)
      refine sS Tryz.func72 (by kernel_rfl) rfl #[.pointer (some ⟨gl, 0, none⟩), .agg #[.slice A6 D.1.length c6, .bool D.2.1, .int .i64 D.2.2.1, .int .i64 D.2.2.2.1], .int .i64 D.2.2.2.2] (by rfl) rfl rfl (by simp only [List.map_toArray, List.map_cons, List.map_nil]; rfl) ?_
      refine (qE gl A4 c4 L A6 c6 D (rs := oK A6 c6 D.1 :: (row dZ 139 (.slice Aq (ps).length cq) ps :: row k67 67 (.slice A4 (L.l).length c4) L.l :: box g0 [.slice A0 l.length c0, .bool dn, .int .i64 fu, .int .i64 fa, .int .i64 size, .int .u64 fr, .int .u64 (n : Int), .bool false] 30 :: box g1 [.int .u64 q] 28 :: box gv [.pointer (some ⟨gl, 0, none⟩)] 131 :: ts)) ⟨HN3.out.gV⟩).mono ?_
      rintro e w6 ⟨hE, H4⟩
      rcases hE with ⟨hz, rfl⟩ | ⟨hnz, rfl⟩
      rotate_left
      ·refine .inr ⟨_, rfl, ?_⟩
       have hV : R = (chg L D, D.2.2.2.2) := by rw [HRV.out, HDA.out, HDS.out, if_neg hnz, if_neg hnz]
       show _ ∧ _
       rw [hV]
       exact ⟨rfl, .inr ⟨hnz, rfl⟩, A6, c6, ⟨(Sep.drop2 (Sep.iZ H4.out))⟩⟩
      refine .inl ⟨_, rfl, ?_⟩
      refine hK.out _ _ ?_
      clear hK K
      refine fO (a' := ?_) ?_ ?_
      rotate_left
      ·show Act.put _ (some 44) _ = _
       simp only [Act.put, zA, zZ, zS, aI, aJ]
       rfl
      refine jR (by kernel_rfl) ?_
      have hc6 : (rest.length : Int) ≤ (c5 : Int) := by omega
      have hln : (rest.drop 1).length = rest.length - 1 := List.length_drop
      go_wp2
      refine ⟨⟨chg L D, rest.drop 1, some (a5.add (1 * 4)), c5 - 1, A6, c6, ?_, by omega, by omega, ⟨fun p hp => qgR.out p (List.mem_of_mem_drop hp)⟩, ⟨fun W h => ?_⟩, ⟨?_⟩, ⟨(Sep.sN (Sep.jA (Sep.jA (Sep.sN (Sep.sN (Sep.sN (Sep.iZ H4.out)))))))⟩⟩, ?_⟩
      ·rw [hln]
       rfl
      ·rw [hln]
       exact yK (HC5.out W h) (by omega)
      ·rw [HDA.out, HDS.out, if_pos hz]
      ·show rest.length - 1 < rest.length
       omega
     ·
      have q2 := decide_eq_false hq2
      have HV : aA (R = (xU L rest, 0)) := ⟨by rw [HRV.out, HDA.out, Y4 HP2.out hq2, if_pos rfl]⟩
      have q6 : (0 : Int) < (rest.length : Int) := by omega
      go_upto_region 3 with fail
      go_quiet (fail)
      clear h0 h1 h2 h3 k4
      go_upto_region 7 with fail
      refine OD (rs := (row dZ 139 (.slice Aq (ps).length cq) ps :: box gl [.slice A4 L.l.length c4, .bool L.dn, .int .i64 L.fu, .int .i64 L.fa, .int .i64 L.size, .int .u64 L.fr, .int .u64 L.nx, .bool L.br] 134 :: row k67 67 (.slice A4 (L.l).length c4) L.l :: box g0 [.slice A0 l.length c0, .bool dn, .int .i64 fu, .int .i64 fa, .int .i64 size, .int .u64 fr, .int .u64 (n : Int), .bool false] 30 :: box g1 [.int .u64 q] 28 :: box gv [.pointer (some ⟨gl, 0, none⟩)] 131 :: ts)) (Sep.drewN H.out _) ?_
      intro wd3 n_
      clear H c_l c_m c_t c_v
      have H := n_
      clear n_
      have c_l := H.out.cell (g := gl) mem1
      have c_m := H.out.cell (g := g0) mem3
      have c_t := H.out.cell (g := g1) bM
      have c_v := H.out.cell (g := gv) dM
      clear c_l c_m c_t c_v
      have c_l := H.out.cell (g := gl) mem1
      have z_l := H.out.frozen (g := gl) mem1
      have c_m := H.out.cell (g := g0) mem3
      have c_t := H.out.cell (g := g1) bM
      have c_v := H.out.cell (g := gv) dM
      have h9 : wd3.cell? ⟨a5.block, a5.off + 3, none⟩ = some (.int .u64 (p.2 : Int)) := by
       have h := (tN (HC5.out _ (H.out.reads (A := Aq) aH).2.2) HP0.out).2.2.2
       rwa [show a5.add (0 * 4) = a5 by simp [Addr.add]] at h
      have hl00 : 0 < rest.length := by omega
      go_region
      clear h9
      refine uT (rs := (row dZ 139 (.slice Aq (ps).length cq) ps :: box gl [.slice A4 L.l.length c4, .bool L.dn, .int .i64 L.fu, .int .i64 L.fa, .int .i64 L.size, .int .u64 (p.2 : Int), .int .u64 L.nx, .bool L.br] 134 :: row k67 67 (.slice A4 (L.l).length c4) L.l :: box g0 [.slice A0 l.length c0, .bool dn, .int .i64 fu, .int .i64 fa, .int .i64 size, .int .u64 fr, .int .u64 (n : Int), .bool false] 30 :: box g1 [.int .u64 q] 28 :: box gv [.pointer (some ⟨gl, 0, none⟩)] 131 :: ts)) (Sep.drew (Sep.set1 H.out 5 (.int .u64 (p.2 : Int)) rfl)) ?_
      intro wd4 n_
      clear H c_l z_l c_m c_t c_v
      have H := n_
      clear n_
      have c_l := H.out.cell (g := gl) mem1
      have z_l := H.out.frozen (g := gl) mem1
      have c_m := H.out.cell (g := g0) mem3
      have c_t := H.out.cell (g := g1) bM
      have c_v := H.out.cell (g := gv) dM
      go_wp2_with fail
      go_end0
      have hfr : xU L rest = { L with fr := (p.2 : Int) } := by
       cases rest with
       | nil => cases HP0.out
       | cons a r => have := HP0.out; simp only [List.getElem?_cons_zero, Option.some.injEq] at this; subst this; rfl
      rw [HV.out, hfr]
      exact ⟨.inl ⟨rfl, rfl⟩, A4, c4, ⟨(Sep.dW H.out)⟩⟩
    ·
     have q1 : decide ((1 : Int) < (rest.length : Int)) = false := decide_eq_false (by omega)
     have HV : aA (R = (xU L rest, 0)) := ⟨by rw [HRV.out, HDA.out, Y3 hl1, if_pos rfl]⟩
     by_cases hl0 : 0 < rest.length
     ·
      obtain ⟨p, hp⟩ : ∃ p, rest[0]? = some p := ⟨_, List.getElem?_eq_getElem (by omega)⟩
      obtain ⟨a5, e1⟩ := J3 (HC5.out _ (H.out.reads (A := Aq) aH).2.2) (by omega)
      subst e1
      obtain ⟨h0, h1, h2, h3⟩ := tN (HC5.out _ (H.out.reads (A := Aq) aH).2.2) hp
      have ea : a5.add 0 = a5 := by simp [Addr.add]
      simp only [Nat.zero_mul, ea] at h0 h1 h2 h3
      have HP0 := aA.mk hp
      clear ea
      clear hp
      have q5 : (0 : Int) < (rest.length : Int) := by omega
      go_upto_region 3 with fail
      go_quiet (fail)
      clear h0 h1 h2 h3
      go_upto_region 7 with fail
      refine OD (rs := (row dZ 139 (.slice Aq (ps).length cq) ps :: box gl [.slice A4 L.l.length c4, .bool L.dn, .int .i64 L.fu, .int .i64 L.fa, .int .i64 L.size, .int .u64 L.fr, .int .u64 L.nx, .bool L.br] 134 :: row k67 67 (.slice A4 (L.l).length c4) L.l :: box g0 [.slice A0 l.length c0, .bool dn, .int .i64 fu, .int .i64 fa, .int .i64 size, .int .u64 fr, .int .u64 (n : Int), .bool false] 30 :: box g1 [.int .u64 q] 28 :: box gv [.pointer (some ⟨gl, 0, none⟩)] 131 :: ts)) (Sep.drewN H.out _) ?_
      intro wd5 n_
      clear H c_l c_m c_t c_v
      have H := n_
      clear n_
      have c_l := H.out.cell (g := gl) mem1
      have c_m := H.out.cell (g := g0) mem3
      have c_t := H.out.cell (g := g1) bM
      have c_v := H.out.cell (g := gv) dM
      clear c_l c_m c_t c_v
      have c_l := H.out.cell (g := gl) mem1
      have z_l := H.out.frozen (g := gl) mem1
      have c_m := H.out.cell (g := g0) mem3
      have c_t := H.out.cell (g := g1) bM
      have c_v := H.out.cell (g := gv) dM
      have h9 : wd5.cell? ⟨a5.block, a5.off + 3, none⟩ = some (.int .u64 (p.2 : Int)) := by
       have h := (tN (HC5.out _ (H.out.reads (A := Aq) aH).2.2) HP0.out).2.2.2
       rwa [show a5.add (0 * 4) = a5 by simp [Addr.add]] at h
      have hl00 : 0 < rest.length := by omega
      go_region
      clear h9
      refine uT (rs := (row dZ 139 (.slice Aq (ps).length cq) ps :: box gl [.slice A4 L.l.length c4, .bool L.dn, .int .i64 L.fu, .int .i64 L.fa, .int .i64 L.size, .int .u64 (p.2 : Int), .int .u64 L.nx, .bool L.br] 134 :: row k67 67 (.slice A4 (L.l).length c4) L.l :: box g0 [.slice A0 l.length c0, .bool dn, .int .i64 fu, .int .i64 fa, .int .i64 size, .int .u64 fr, .int .u64 (n : Int), .bool false] 30 :: box g1 [.int .u64 q] 28 :: box gv [.pointer (some ⟨gl, 0, none⟩)] 131 :: ts)) (Sep.drew (Sep.set1 H.out 5 (.int .u64 (p.2 : Int)) rfl)) ?_
      intro wd6 n_
      clear H c_l z_l c_m c_t c_v
      have H := n_
      clear n_
      have c_l := H.out.cell (g := gl) mem1
      have z_l := H.out.frozen (g := gl) mem1
      have c_m := H.out.cell (g := g0) mem3
      have c_t := H.out.cell (g := g1) bM
      have c_v := H.out.cell (g := gv) dM
      go_wp2_with fail
      go_end0
      have hfr : xU L rest = { L with fr := (p.2 : Int) } := by
       cases rest with
       | nil => cases HP0.out
       | cons a r => have := HP0.out; simp only [List.getElem?_cons_zero, Option.some.injEq] at this; subst this; rfl
      rw [HV.out, hfr]
      exact ⟨.inl ⟨rfl, rfl⟩, A4, c4, ⟨(Sep.dW H.out)⟩⟩
     ·
      have hre : rest = [] := List.length_eq_zero_iff.1 (by omega)
      have HRE : aA (xU L rest = L) := ⟨by rw [hre]; rfl⟩
      have q5 : ¬ (0 : Int) < (rest.length : Int) := by omega
      clear hre
      go_upto_region 3 with fail
      go_quiet (fail)
      go_wp2_with fail
      go_end0
      rw [HV.out, HRE.out]
      exact ⟨.inl ⟨rfl, rfl⟩, A4, c4, ⟨(Sep.dW (Sep.drewN H.out _))⟩⟩
end Go.Proofs.YtanonhipicoigaaGreatDoor.U
namespace Go.Proofs.YtanonhipicoigaaGreatDoor.U
open Go.RowKit Go.Proofs.YW.PrintWords Go.Proofs.YW.PrintLast Go.Proofs.YW.PrintMore
attribute [local go_sem] iJ iK jP jQ gX gY iW iY
def fK.f (aZ : List (S67)) (bW : Bool) (bY : Int) (bZ : Int) (eU : Int) (eY : Int) (eF : Int) (fG : Bool) : Option (Int) := (dN.f aZ bW bY bZ).bind fun yX => (if yX = 0 then (if eU < 1 then (some 6) else (if eU > 262144 then (some 6) else (if eY > eF then (some 6) else (if eF > 4611686018427387904 then (some 6) else (some 0))))) else (some 6))
set_option maxHeartbeats 8000000 in
set_option maxRecDepth 100000 in
theorem fK.calls (dR : Option Addr) (dS : Nat) (aZ : List (S67)) (bW : Bool) (bY : Int) (bZ : Int) (eU : Int) (eY : Int) (eF : Int) (fG : Bool) (r : Int) (w : World) (jS : Kd.C k67 w dR aZ.length aZ) (lJ : aZ.length ≤ dS) (h : fK.f aZ bW bY bZ eU eY eF fG = some r) :
    Calls Tryz.prog 33 #[.agg #[.slice dR aZ.length dS, .bool bW, .int .i64 bY, .int .i64 bZ, .int .i64 eU, .int .u64 eY, .int .u64 eF, .bool fG]] w fun e w' => e = .returned (.int .i64 r) ∧ Below w.heap.size w w' := by
  have qjv := Tryz.underlying30
  have qjw := Tryz.underlying27
  have AB := aA.mk jS
  have AL := aA.mk lJ
  clear jS lJ
  have HB := aA.mk (Below.refl w.heap.size w)
  have H : ((dN.f aZ bW bY bZ).bind fun yX => (if yX = 0 then (if eU < 1 then (some 6) else (if eU > 262144 then (some 6) else (if eY > eF then (some 6) else (if eF > 4611686018427387904 then (some 6) else (some 0))))) else (some 6))) = some r := h
  clear h
  replace H := Option.bind_eq_some_iff.mp H
  obtain ⟨yX, A20, H⟩ := H
  replace H : (if yX = 0 then (if eU < 1 then (some 6) else (if eU > 262144 then (some 6) else (if eY > eF then (some 6) else (if eF > 4611686018427387904 then (some 6) else (some 0))))) else (some 6)) = some r := H
  have A2 := aA.mk A20
  clear A20
  by_cases c3 : yX = 0
  · rw [if_pos c3] at H
    have MP : (yX == 0) = true := beq_iff_eq.mpr c3
    have XD : (yX != 0) = false := bne_eq_false_iff_eq.mpr c3
    clear c3
    by_cases c4 : eU < 1
    · rw [if_pos c4] at H
      have qcn : decide (eU < 1) = true := decide_eq_true c4
      clear c4
      obtain rfl := Option.some.inj H
      go_enter Tryz.func33, Tryz.ntmps33
      go_wp2_with (first | ((with_reducible refine aN (N := 1) rfl ?_); refine dH ?hg (N := 1) ?hd (cs := #[.slice dR aZ.length dS, .bool bW, .int .i64 bY, .int .i64 bZ, .int .i64 eU, .int .u64 eY, .int .u64 eF, .bool fG]) (t := 30) ?hr ?_; (case hd => rfl); (case hg => rfl); (case hr => first | (go_simp; done) | (go_simp; rfl)); intro bT hg w5 hbox hb; have n0_ := aA.mk (bC (by repeat (first | (with_reducible first | exact HB.out | apply aT | apply aU | apply aY) | exact HB.out)) hb); have n1_ := aA.mk (hbox); have n2_ := aA.mk ((by rw [hg]; exact (dX (by repeat (first | (with_reducible first | exact HB.out | apply aT | apply aU | apply aY) | exact HB.out))) : w.heap.size ≤ bT)); have n3_ := aA.mk ((by rw [hg]; exact (dX (by repeat (first | (with_reducible first | exact HB.out | apply aT | apply aU | apply aY) | exact HB.out))) : w.heap.size ≤ bT)); clear HB; have HB := n0_; have aW := n1_; have XE := n2_; have qV := n3_; clear n0_ n1_ n2_ n3_; clear hb hbox hg; have qjx : w5.cell? ⟨bT, 0, none⟩ = some (.slice dR aZ.length dS) := (aG aW.out 0).trans rfl; have qjy : w5.cell? ⟨bT, 1, none⟩ = some (.bool bW) := (aG aW.out 1).trans rfl; have qjz : w5.cell? ⟨bT, 2, none⟩ = some (.int .i64 bY) := (aG aW.out 2).trans rfl; have qjA : w5.cell? ⟨bT, 3, none⟩ = some (.int .i64 bZ) := (aG aW.out 3).trans rfl; have qjB : w5.cell? ⟨bT, 4, none⟩ = some (.int .i64 eU) := (aG aW.out 4).trans rfl; have qjC : w5.cell? ⟨bT, 5, none⟩ = some (.int .u64 eY) := (aG aW.out 5).trans rfl; have qjD : w5.cell? ⟨bT, 6, none⟩ = some (.int .u64 eF) := (aG aW.out 6).trans rfl; have qjE : w5.cell? ⟨bT, 7, none⟩ = some (.bool fG) := (aG aW.out 7).trans rfl; have qjF := aC aW.out 0; have qjG := aC aW.out 1; have qjH := aC aW.out 2; have qjI := aC aW.out 3; have qjJ := aC aW.out 4; have qjK := aC aW.out 5; have qjL := aC aW.out 6; have qjM := aC aW.out 7) | ((with_reducible refine jX (f := 50) rfl ?_); refine vN (some 5) rfl rfl Tryz.func50 (by kernel_rfl) rfl #[.agg #[.slice dR aZ.length dS, .bool bW, .int .i64 bY, .int .i64 bZ]] rfl (by (try simp only [List.map_toArray, List.map_cons, List.map_nil]); first | done | rfl | (simp only [List.length_drop, List.length_take]; rfl)) ?_; (with_reducible refine (dN.calls _ _ aZ bW bY bZ yX _ ?qW ?qX A2.out).mono ?_); (case qW => repeat (first | exact (Kd.fC AB.out HB.out) | (with_reducible refine Kd.rP ?_ _) | (with_reducible refine Kd.rQ ?_ _) | (with_reducible refine Kd.vM ?_))); (case qX => exact AL.out); rintro e w7 ⟨rfl, hb⟩; refine ⟨_, rfl, ?_⟩; have n0_ := aA.mk (bG (g := bT) (o := .cells #[.slice dR aZ.length dS, .bool bW, .int .i64 bY, .int .i64 bZ, .int .i64 eU, .int .u64 eY, .int .u64 eF, .bool fG] 30 (0, 0)) (by (with_reducible repeat (first | refine bU ?_ _ | refine bJ ?_ | refine bD ?_ _)); exact aW.out) hb); have n1_ := aA.mk (bC (by repeat (first | (with_reducible first | exact HB.out | apply aT | apply aU | apply aY | refine bH ?_ qV.out) | exact HB.out)) hb); clear aW; clear HB; have aW := n0_; have HB := n1_; clear n0_ n1_; (try clear hb); (try clear hb2); (try clear hk); (try clear hi); have Y5 : w7.cell? ⟨bT, 0, none⟩ = some (.slice dR aZ.length dS) := (aG aW.out 0).trans rfl; have Y6 : w7.cell? ⟨bT, 1, none⟩ = some (.bool bW) := (aG aW.out 1).trans rfl; have Y7 : w7.cell? ⟨bT, 2, none⟩ = some (.int .i64 bY) := (aG aW.out 2).trans rfl; have Y8 : w7.cell? ⟨bT, 3, none⟩ = some (.int .i64 bZ) := (aG aW.out 3).trans rfl; have Y9 : w7.cell? ⟨bT, 4, none⟩ = some (.int .i64 eU) := (aG aW.out 4).trans rfl; have ZA : w7.cell? ⟨bT, 5, none⟩ = some (.int .u64 eY) := (aG aW.out 5).trans rfl; have ZB : w7.cell? ⟨bT, 6, none⟩ = some (.int .u64 eF) := (aG aW.out 6).trans rfl; have ZC : w7.cell? ⟨bT, 7, none⟩ = some (.bool fG) := (aG aW.out 7).trans rfl; have ZE := aC aW.out 0; have ZF := aC aW.out 1; have ZG := aC aW.out 2; have ZH := aC aW.out 3; have ZI := aC aW.out 4; have ZJ := aC aW.out 5; have ZK := aC aW.out 6; have ZL := aC aW.out 7))
      go_ret
      exact ⟨by first | rfl | (simp [gI, gJ] <;> rfl) | (simp [*, gI, gJ] <;> rfl), by repeat (first | (with_reducible first | exact HB.out | apply aT | apply aU | apply aY | refine bH ?_ qV.out) | exact HB.out)⟩
    · rw [if_neg c4] at H
      have qcn : decide (eU < 1) = false := decide_eq_false c4
      clear c4
      by_cases c9 : eU > 262144
      · rw [if_pos c9] at H
        have qgS : decide (262144 < eU) = true := decide_eq_true c9
        clear c9
        obtain rfl := Option.some.inj H
        go_enter Tryz.func33, Tryz.ntmps33
        go_wp2_with (first | ((with_reducible refine aN (N := 1) rfl ?_); refine dH ?hg (N := 1) ?hd (cs := #[.slice dR aZ.length dS, .bool bW, .int .i64 bY, .int .i64 bZ, .int .i64 eU, .int .u64 eY, .int .u64 eF, .bool fG]) (t := 30) ?hr ?_; (case hd => rfl); (case hg => rfl); (case hr => first | (go_simp; done) | (go_simp; rfl)); intro bT hg w10 hbox hb; have n0_ := aA.mk (bC (by repeat (first | (with_reducible first | exact HB.out | apply aT | apply aU | apply aY) | exact HB.out)) hb); have n1_ := aA.mk (hbox); have n2_ := aA.mk ((by rw [hg]; exact (dX (by repeat (first | (with_reducible first | exact HB.out | apply aT | apply aU | apply aY) | exact HB.out))) : w.heap.size ≤ bT)); have n3_ := aA.mk ((by rw [hg]; exact (dX (by repeat (first | (with_reducible first | exact HB.out | apply aT | apply aU | apply aY) | exact HB.out))) : w.heap.size ≤ bT)); clear HB; have HB := n0_; have aW := n1_; have XE := n2_; have qV := n3_; clear n0_ n1_ n2_ n3_; clear hb hbox hg; have TT : w10.cell? ⟨bT, 0, none⟩ = some (.slice dR aZ.length dS) := (aG aW.out 0).trans rfl; have TU : w10.cell? ⟨bT, 1, none⟩ = some (.bool bW) := (aG aW.out 1).trans rfl; have TV : w10.cell? ⟨bT, 2, none⟩ = some (.int .i64 bY) := (aG aW.out 2).trans rfl; have TW : w10.cell? ⟨bT, 3, none⟩ = some (.int .i64 bZ) := (aG aW.out 3).trans rfl; have TY : w10.cell? ⟨bT, 4, none⟩ = some (.int .i64 eU) := (aG aW.out 4).trans rfl; have UA : w10.cell? ⟨bT, 5, none⟩ = some (.int .u64 eY) := (aG aW.out 5).trans rfl; have UC : w10.cell? ⟨bT, 6, none⟩ = some (.int .u64 eF) := (aG aW.out 6).trans rfl; have UD : w10.cell? ⟨bT, 7, none⟩ = some (.bool fG) := (aG aW.out 7).trans rfl; have UF := aC aW.out 0; have UG := aC aW.out 1; have UH := aC aW.out 2; have UJ := aC aW.out 3; have UK := aC aW.out 4; have UL := aC aW.out 5; have UM := aC aW.out 6; have UN := aC aW.out 7) | ((with_reducible refine jX (f := 50) rfl ?_); refine vN (some 5) rfl rfl Tryz.func50 (by kernel_rfl) rfl #[.agg #[.slice dR aZ.length dS, .bool bW, .int .i64 bY, .int .i64 bZ]] rfl (by (try simp only [List.map_toArray, List.map_cons, List.map_nil]); first | done | rfl | (simp only [List.length_drop, List.length_take]; rfl)) ?_; (with_reducible refine (dN.calls _ _ aZ bW bY bZ yX _ ?qW ?qX A2.out).mono ?_); (case qW => repeat (first | exact (Kd.fC AB.out HB.out) | (with_reducible refine Kd.rP ?_ _) | (with_reducible refine Kd.rQ ?_ _) | (with_reducible refine Kd.vM ?_))); (case qX => exact AL.out); rintro e w12 ⟨rfl, hb⟩; refine ⟨_, rfl, ?_⟩; have n0_ := aA.mk (bG (g := bT) (o := .cells #[.slice dR aZ.length dS, .bool bW, .int .i64 bY, .int .i64 bZ, .int .i64 eU, .int .u64 eY, .int .u64 eF, .bool fG] 30 (0, 0)) (by (with_reducible repeat (first | refine bU ?_ _ | refine bJ ?_ | refine bD ?_ _)); exact aW.out) hb); have n1_ := aA.mk (bC (by repeat (first | (with_reducible first | exact HB.out | apply aT | apply aU | apply aY | refine bH ?_ qV.out) | exact HB.out)) hb); clear aW; clear HB; have aW := n0_; have HB := n1_; clear n0_ n1_; (try clear hb); (try clear hb2); (try clear hk); (try clear hi); have UO : w12.cell? ⟨bT, 0, none⟩ = some (.slice dR aZ.length dS) := (aG aW.out 0).trans rfl; have UQ : w12.cell? ⟨bT, 1, none⟩ = some (.bool bW) := (aG aW.out 1).trans rfl; have UR : w12.cell? ⟨bT, 2, none⟩ = some (.int .i64 bY) := (aG aW.out 2).trans rfl; have UU : w12.cell? ⟨bT, 3, none⟩ = some (.int .i64 bZ) := (aG aW.out 3).trans rfl; have UW : w12.cell? ⟨bT, 4, none⟩ = some (.int .i64 eU) := (aG aW.out 4).trans rfl; have UY : w12.cell? ⟨bT, 5, none⟩ = some (.int .u64 eY) := (aG aW.out 5).trans rfl; have UZ : w12.cell? ⟨bT, 6, none⟩ = some (.int .u64 eF) := (aG aW.out 6).trans rfl; have U0 : w12.cell? ⟨bT, 7, none⟩ = some (.bool fG) := (aG aW.out 7).trans rfl; have U1 := aC aW.out 0; have U2 := aC aW.out 1; have U3 := aC aW.out 2; have U4 := aC aW.out 3; have U5 := aC aW.out 4; have U6 := aC aW.out 5; have U7 := aC aW.out 6; have U8 := aC aW.out 7))
        go_ret
        exact ⟨by first | rfl | (simp [gI, gJ] <;> rfl) | (simp [*, gI, gJ] <;> rfl), by repeat (first | (with_reducible first | exact HB.out | apply aT | apply aU | apply aY | refine bH ?_ qV.out) | exact HB.out)⟩
      · rw [if_neg c9] at H
        have qgS : decide (262144 < eU) = false := decide_eq_false c9
        clear c9
        by_cases c14 : eY > eF
        · rw [if_pos c14] at H
          have qgT : decide (eF < eY) = true := decide_eq_true c14
          clear c14
          obtain rfl := Option.some.inj H
          go_enter Tryz.func33, Tryz.ntmps33
          go_wp2_with (first | ((with_reducible refine aN (N := 1) rfl ?_); refine dH ?hg (N := 1) ?hd (cs := #[.slice dR aZ.length dS, .bool bW, .int .i64 bY, .int .i64 bZ, .int .i64 eU, .int .u64 eY, .int .u64 eF, .bool fG]) (t := 30) ?hr ?_; (case hd => rfl); (case hg => rfl); (case hr => first | (go_simp; done) | (go_simp; rfl)); intro bT hg w15 hbox hb; have n0_ := aA.mk (bC (by repeat (first | (with_reducible first | exact HB.out | apply aT | apply aU | apply aY) | exact HB.out)) hb); have n1_ := aA.mk (hbox); have n2_ := aA.mk ((by rw [hg]; exact (dX (by repeat (first | (with_reducible first | exact HB.out | apply aT | apply aU | apply aY) | exact HB.out))) : w.heap.size ≤ bT)); have n3_ := aA.mk ((by rw [hg]; exact (dX (by repeat (first | (with_reducible first | exact HB.out | apply aT | apply aU | apply aY) | exact HB.out))) : w.heap.size ≤ bT)); clear HB; have HB := n0_; have aW := n1_; have XE := n2_; have qV := n3_; clear n0_ n1_ n2_ n3_; clear hb hbox hg; have qav : w15.cell? ⟨bT, 0, none⟩ = some (.slice dR aZ.length dS) := (aG aW.out 0).trans rfl; have qaw : w15.cell? ⟨bT, 1, none⟩ = some (.bool bW) := (aG aW.out 1).trans rfl; have qax : w15.cell? ⟨bT, 2, none⟩ = some (.int .i64 bY) := (aG aW.out 2).trans rfl; have qay : w15.cell? ⟨bT, 3, none⟩ = some (.int .i64 bZ) := (aG aW.out 3).trans rfl; have qaz : w15.cell? ⟨bT, 4, none⟩ = some (.int .i64 eU) := (aG aW.out 4).trans rfl; have qaA : w15.cell? ⟨bT, 5, none⟩ = some (.int .u64 eY) := (aG aW.out 5).trans rfl; have qaB : w15.cell? ⟨bT, 6, none⟩ = some (.int .u64 eF) := (aG aW.out 6).trans rfl; have qaC : w15.cell? ⟨bT, 7, none⟩ = some (.bool fG) := (aG aW.out 7).trans rfl; have qaD := aC aW.out 0; have qaE := aC aW.out 1; have qaF := aC aW.out 2; have qaG := aC aW.out 3; have qaH := aC aW.out 4; have qaI := aC aW.out 5; have qaJ := aC aW.out 6; have qaK := aC aW.out 7) | ((with_reducible refine jX (f := 50) rfl ?_); refine vN (some 5) rfl rfl Tryz.func50 (by kernel_rfl) rfl #[.agg #[.slice dR aZ.length dS, .bool bW, .int .i64 bY, .int .i64 bZ]] rfl (by (try simp only [List.map_toArray, List.map_cons, List.map_nil]); first | done | rfl | (simp only [List.length_drop, List.length_take]; rfl)) ?_; (with_reducible refine (dN.calls _ _ aZ bW bY bZ yX _ ?qW ?qX A2.out).mono ?_); (case qW => repeat (first | exact (Kd.fC AB.out HB.out) | (with_reducible refine Kd.rP ?_ _) | (with_reducible refine Kd.rQ ?_ _) | (with_reducible refine Kd.vM ?_))); (case qX => exact AL.out); rintro e w17 ⟨rfl, hb⟩; refine ⟨_, rfl, ?_⟩; have n0_ := aA.mk (bG (g := bT) (o := .cells #[.slice dR aZ.length dS, .bool bW, .int .i64 bY, .int .i64 bZ, .int .i64 eU, .int .u64 eY, .int .u64 eF, .bool fG] 30 (0, 0)) (by (with_reducible repeat (first | refine bU ?_ _ | refine bJ ?_ | refine bD ?_ _)); exact aW.out) hb); have n1_ := aA.mk (bC (by repeat (first | (with_reducible first | exact HB.out | apply aT | apply aU | apply aY | refine bH ?_ qV.out) | exact HB.out)) hb); clear aW; clear HB; have aW := n0_; have HB := n1_; clear n0_ n1_; (try clear hb); (try clear hb2); (try clear hk); (try clear hi); have qhm : w17.cell? ⟨bT, 0, none⟩ = some (.slice dR aZ.length dS) := (aG aW.out 0).trans rfl; have qhn : w17.cell? ⟨bT, 1, none⟩ = some (.bool bW) := (aG aW.out 1).trans rfl; have qho : w17.cell? ⟨bT, 2, none⟩ = some (.int .i64 bY) := (aG aW.out 2).trans rfl; have qhp : w17.cell? ⟨bT, 3, none⟩ = some (.int .i64 bZ) := (aG aW.out 3).trans rfl; have qhq : w17.cell? ⟨bT, 4, none⟩ = some (.int .i64 eU) := (aG aW.out 4).trans rfl; have qhr : w17.cell? ⟨bT, 5, none⟩ = some (.int .u64 eY) := (aG aW.out 5).trans rfl; have qhs : w17.cell? ⟨bT, 6, none⟩ = some (.int .u64 eF) := (aG aW.out 6).trans rfl; have qht : w17.cell? ⟨bT, 7, none⟩ = some (.bool fG) := (aG aW.out 7).trans rfl; have qhu := aC aW.out 0; have qhv := aC aW.out 1; have qhw := aC aW.out 2; have qhx := aC aW.out 3; have qhy := aC aW.out 4; have qhz := aC aW.out 5; have qhA := aC aW.out 6; have qhB := aC aW.out 7))
          go_ret
          exact ⟨by first | rfl | (simp [gI, gJ] <;> rfl) | (simp [*, gI, gJ] <;> rfl), by repeat (first | (with_reducible first | exact HB.out | apply aT | apply aU | apply aY | refine bH ?_ qV.out) | exact HB.out)⟩
        · rw [if_neg c14] at H
          have qgT : decide (eF < eY) = false := decide_eq_false c14
          clear c14
          by_cases c19 : eF > 4611686018427387904
          · rw [if_pos c19] at H
            have qfw : decide (4611686018427387904 < eF) = true := decide_eq_true c19
            clear c19
            obtain rfl := Option.some.inj H
            go_enter Tryz.func33, Tryz.ntmps33
            go_wp2_with (first | ((with_reducible refine aN (N := 1) rfl ?_); refine dH ?hg (N := 1) ?hd (cs := #[.slice dR aZ.length dS, .bool bW, .int .i64 bY, .int .i64 bZ, .int .i64 eU, .int .u64 eY, .int .u64 eF, .bool fG]) (t := 30) ?hr ?_; (case hd => rfl); (case hg => rfl); (case hr => first | (go_simp; done) | (go_simp; rfl)); intro bT hg w20 hbox hb; have n0_ := aA.mk (bC (by repeat (first | (with_reducible first | exact HB.out | apply aT | apply aU | apply aY) | exact HB.out)) hb); have n1_ := aA.mk (hbox); have n2_ := aA.mk ((by rw [hg]; exact (dX (by repeat (first | (with_reducible first | exact HB.out | apply aT | apply aU | apply aY) | exact HB.out))) : w.heap.size ≤ bT)); have n3_ := aA.mk ((by rw [hg]; exact (dX (by repeat (first | (with_reducible first | exact HB.out | apply aT | apply aU | apply aY) | exact HB.out))) : w.heap.size ≤ bT)); clear HB; have HB := n0_; have aW := n1_; have XE := n2_; have qV := n3_; clear n0_ n1_ n2_ n3_; clear hb hbox hg; have qhC : w20.cell? ⟨bT, 0, none⟩ = some (.slice dR aZ.length dS) := (aG aW.out 0).trans rfl; have qhD : w20.cell? ⟨bT, 1, none⟩ = some (.bool bW) := (aG aW.out 1).trans rfl; have qhE : w20.cell? ⟨bT, 2, none⟩ = some (.int .i64 bY) := (aG aW.out 2).trans rfl; have qhF : w20.cell? ⟨bT, 3, none⟩ = some (.int .i64 bZ) := (aG aW.out 3).trans rfl; have qhG : w20.cell? ⟨bT, 4, none⟩ = some (.int .i64 eU) := (aG aW.out 4).trans rfl; have qhH : w20.cell? ⟨bT, 5, none⟩ = some (.int .u64 eY) := (aG aW.out 5).trans rfl; have qhI : w20.cell? ⟨bT, 6, none⟩ = some (.int .u64 eF) := (aG aW.out 6).trans rfl; have qhJ : w20.cell? ⟨bT, 7, none⟩ = some (.bool fG) := (aG aW.out 7).trans rfl; have qhK := aC aW.out 0; have qhL := aC aW.out 1; have qhM := aC aW.out 2; have qhN := aC aW.out 3; have qhO := aC aW.out 4; have qhP := aC aW.out 5; have qhQ := aC aW.out 6; have qhR := aC aW.out 7) | ((with_reducible refine jX (f := 50) rfl ?_); refine vN (some 5) rfl rfl Tryz.func50 (by kernel_rfl) rfl #[.agg #[.slice dR aZ.length dS, .bool bW, .int .i64 bY, .int .i64 bZ]] rfl (by (try simp only [List.map_toArray, List.map_cons, List.map_nil]); first | done | rfl | (simp only [List.length_drop, List.length_take]; rfl)) ?_; (with_reducible refine (dN.calls _ _ aZ bW bY bZ yX _ ?qW ?qX A2.out).mono ?_); (case qW => repeat (first | exact (Kd.fC AB.out HB.out) | (with_reducible refine Kd.rP ?_ _) | (with_reducible refine Kd.rQ ?_ _) | (with_reducible refine Kd.vM ?_))); (case qX => exact AL.out); rintro e w22 ⟨rfl, hb⟩; refine ⟨_, rfl, ?_⟩; have n0_ := aA.mk (bG (g := bT) (o := .cells #[.slice dR aZ.length dS, .bool bW, .int .i64 bY, .int .i64 bZ, .int .i64 eU, .int .u64 eY, .int .u64 eF, .bool fG] 30 (0, 0)) (by (with_reducible repeat (first | refine bU ?_ _ | refine bJ ?_ | refine bD ?_ _)); exact aW.out) hb); have n1_ := aA.mk (bC (by repeat (first | (with_reducible first | exact HB.out | apply aT | apply aU | apply aY | refine bH ?_ qV.out) | exact HB.out)) hb); clear aW; clear HB; have aW := n0_; have HB := n1_; clear n0_ n1_; (try clear hb); (try clear hb2); (try clear hk); (try clear hi); have qhS : w22.cell? ⟨bT, 0, none⟩ = some (.slice dR aZ.length dS) := (aG aW.out 0).trans rfl; have qhT : w22.cell? ⟨bT, 1, none⟩ = some (.bool bW) := (aG aW.out 1).trans rfl; have qhU : w22.cell? ⟨bT, 2, none⟩ = some (.int .i64 bY) := (aG aW.out 2).trans rfl; have qhV : w22.cell? ⟨bT, 3, none⟩ = some (.int .i64 bZ) := (aG aW.out 3).trans rfl; have qhW : w22.cell? ⟨bT, 4, none⟩ = some (.int .i64 eU) := (aG aW.out 4).trans rfl; have qhX : w22.cell? ⟨bT, 5, none⟩ = some (.int .u64 eY) := (aG aW.out 5).trans rfl; have qhY : w22.cell? ⟨bT, 6, none⟩ = some (.int .u64 eF) := (aG aW.out 6).trans rfl; have qhZ : w22.cell? ⟨bT, 7, none⟩ = some (.bool fG) := (aG aW.out 7).trans rfl; have qh0 := aC aW.out 0; have qh1 := aC aW.out 1; have qh2 := aC aW.out 2; have qh3 := aC aW.out 3; have qh4 := aC aW.out 4; have qh5 := aC aW.out 5; have qh6 := aC aW.out 6; have qh7 := aC aW.out 7))
            go_ret
            exact ⟨by first | rfl | (simp [gI, gJ] <;> rfl) | (simp [*, gI, gJ] <;> rfl), by repeat (first | (with_reducible first | exact HB.out | apply aT | apply aU | apply aY | refine bH ?_ qV.out) | exact HB.out)⟩
          · rw [if_neg c19] at H
            have qfw : decide (4611686018427387904 < eF) = false := decide_eq_false c19
            clear c19
            obtain rfl := Option.some.inj H
            go_enter Tryz.func33, Tryz.ntmps33
            go_wp2_with (first | ((with_reducible refine aN (N := 1) rfl ?_); refine dH ?hg (N := 1) ?hd (cs := #[.slice dR aZ.length dS, .bool bW, .int .i64 bY, .int .i64 bZ, .int .i64 eU, .int .u64 eY, .int .u64 eF, .bool fG]) (t := 30) ?hr ?_; (case hd => rfl); (case hg => rfl); (case hr => first | (go_simp; done) | (go_simp; rfl)); intro bT hg w24 hbox hb; have n0_ := aA.mk (bC (by repeat (first | (with_reducible first | exact HB.out | apply aT | apply aU | apply aY) | exact HB.out)) hb); have n1_ := aA.mk (hbox); have n2_ := aA.mk ((by rw [hg]; exact (dX (by repeat (first | (with_reducible first | exact HB.out | apply aT | apply aU | apply aY) | exact HB.out))) : w.heap.size ≤ bT)); have n3_ := aA.mk ((by rw [hg]; exact (dX (by repeat (first | (with_reducible first | exact HB.out | apply aT | apply aU | apply aY) | exact HB.out))) : w.heap.size ≤ bT)); clear HB; have HB := n0_; have aW := n1_; have XE := n2_; have qV := n3_; clear n0_ n1_ n2_ n3_; clear hb hbox hg; have qeO : w24.cell? ⟨bT, 0, none⟩ = some (.slice dR aZ.length dS) := (aG aW.out 0).trans rfl; have qeP : w24.cell? ⟨bT, 1, none⟩ = some (.bool bW) := (aG aW.out 1).trans rfl; have qeQ : w24.cell? ⟨bT, 2, none⟩ = some (.int .i64 bY) := (aG aW.out 2).trans rfl; have qh8 : w24.cell? ⟨bT, 3, none⟩ = some (.int .i64 bZ) := (aG aW.out 3).trans rfl; have qh9 : w24.cell? ⟨bT, 4, none⟩ = some (.int .i64 eU) := (aG aW.out 4).trans rfl; have qia : w24.cell? ⟨bT, 5, none⟩ = some (.int .u64 eY) := (aG aW.out 5).trans rfl; have qib : w24.cell? ⟨bT, 6, none⟩ = some (.int .u64 eF) := (aG aW.out 6).trans rfl; have qic : w24.cell? ⟨bT, 7, none⟩ = some (.bool fG) := (aG aW.out 7).trans rfl; have qeR := aC aW.out 0; have qeS := aC aW.out 1; have qeT := aC aW.out 2; have qid := aC aW.out 3; have qie := aC aW.out 4; have qif := aC aW.out 5; have qig := aC aW.out 6; have qih := aC aW.out 7) | ((with_reducible refine jX (f := 50) rfl ?_); refine vN (some 5) rfl rfl Tryz.func50 (by kernel_rfl) rfl #[.agg #[.slice dR aZ.length dS, .bool bW, .int .i64 bY, .int .i64 bZ]] rfl (by (try simp only [List.map_toArray, List.map_cons, List.map_nil]); first | done | rfl | (simp only [List.length_drop, List.length_take]; rfl)) ?_; (with_reducible refine (dN.calls _ _ aZ bW bY bZ yX _ ?qW ?qX A2.out).mono ?_); (case qW => repeat (first | exact (Kd.fC AB.out HB.out) | (with_reducible refine Kd.rP ?_ _) | (with_reducible refine Kd.rQ ?_ _) | (with_reducible refine Kd.vM ?_))); (case qX => exact AL.out); rintro e w26 ⟨rfl, hb⟩; refine ⟨_, rfl, ?_⟩; have n0_ := aA.mk (bG (g := bT) (o := .cells #[.slice dR aZ.length dS, .bool bW, .int .i64 bY, .int .i64 bZ, .int .i64 eU, .int .u64 eY, .int .u64 eF, .bool fG] 30 (0, 0)) (by (with_reducible repeat (first | refine bU ?_ _ | refine bJ ?_ | refine bD ?_ _)); exact aW.out) hb); have n1_ := aA.mk (bC (by repeat (first | (with_reducible first | exact HB.out | apply aT | apply aU | apply aY | refine bH ?_ qV.out) | exact HB.out)) hb); clear aW; clear HB; have aW := n0_; have HB := n1_; clear n0_ n1_; (try clear hb); (try clear hb2); (try clear hk); (try clear hi); have qii : w26.cell? ⟨bT, 0, none⟩ = some (.slice dR aZ.length dS) := (aG aW.out 0).trans rfl; have qij : w26.cell? ⟨bT, 1, none⟩ = some (.bool bW) := (aG aW.out 1).trans rfl; have qik : w26.cell? ⟨bT, 2, none⟩ = some (.int .i64 bY) := (aG aW.out 2).trans rfl; have qil : w26.cell? ⟨bT, 3, none⟩ = some (.int .i64 bZ) := (aG aW.out 3).trans rfl; have qim : w26.cell? ⟨bT, 4, none⟩ = some (.int .i64 eU) := (aG aW.out 4).trans rfl; have qin : w26.cell? ⟨bT, 5, none⟩ = some (.int .u64 eY) := (aG aW.out 5).trans rfl; have qio : w26.cell? ⟨bT, 6, none⟩ = some (.int .u64 eF) := (aG aW.out 6).trans rfl; have qip : w26.cell? ⟨bT, 7, none⟩ = some (.bool fG) := (aG aW.out 7).trans rfl; have qiq := aC aW.out 0; have qir := aC aW.out 1; have qis := aC aW.out 2; have qit := aC aW.out 3; have qiu := aC aW.out 4; have qiv := aC aW.out 5; have qiw := aC aW.out 6; have qix := aC aW.out 7))
            go_ret
            exact ⟨by first | rfl | (simp [gI, gJ] <;> rfl) | (simp [*, gI, gJ] <;> rfl), by repeat (first | (with_reducible first | exact HB.out | apply aT | apply aU | apply aY | refine bH ?_ qV.out) | exact HB.out)⟩
  · rw [if_neg c3] at H
    have MP : (yX == 0) = false := beq_eq_false_iff_ne.mpr c3
    have XD : (yX != 0) = true := bne_iff_ne.mpr c3
    obtain rfl := Option.some.inj H
    go_enter Tryz.func33, Tryz.ntmps33
    go_wp2_with (first | ((with_reducible refine aN (N := 1) rfl ?_); refine dH ?hg (N := 1) ?hd (cs := #[.slice dR aZ.length dS, .bool bW, .int .i64 bY, .int .i64 bZ, .int .i64 eU, .int .u64 eY, .int .u64 eF, .bool fG]) (t := 30) ?hr ?_; (case hd => rfl); (case hg => rfl); (case hr => first | (go_simp; done) | (go_simp; rfl)); intro bT hg w28 hbox hb; have n0_ := aA.mk (bC (by repeat (first | (with_reducible first | exact HB.out | apply aT | apply aU | apply aY) | exact HB.out)) hb); have n1_ := aA.mk (hbox); have n2_ := aA.mk ((by rw [hg]; exact (dX (by repeat (first | (with_reducible first | exact HB.out | apply aT | apply aU | apply aY) | exact HB.out))) : w.heap.size ≤ bT)); have n3_ := aA.mk ((by rw [hg]; exact (dX (by repeat (first | (with_reducible first | exact HB.out | apply aT | apply aU | apply aY) | exact HB.out))) : w.heap.size ≤ bT)); clear HB; have HB := n0_; have aW := n1_; have XE := n2_; have qV := n3_; clear n0_ n1_ n2_ n3_; clear hb hbox hg; have qeU : w28.cell? ⟨bT, 0, none⟩ = some (.slice dR aZ.length dS) := (aG aW.out 0).trans rfl; have qeV : w28.cell? ⟨bT, 1, none⟩ = some (.bool bW) := (aG aW.out 1).trans rfl; have qeW : w28.cell? ⟨bT, 2, none⟩ = some (.int .i64 bY) := (aG aW.out 2).trans rfl; have qiy : w28.cell? ⟨bT, 3, none⟩ = some (.int .i64 bZ) := (aG aW.out 3).trans rfl; have qiz : w28.cell? ⟨bT, 4, none⟩ = some (.int .i64 eU) := (aG aW.out 4).trans rfl; have qiA : w28.cell? ⟨bT, 5, none⟩ = some (.int .u64 eY) := (aG aW.out 5).trans rfl; have qiB : w28.cell? ⟨bT, 6, none⟩ = some (.int .u64 eF) := (aG aW.out 6).trans rfl; have qiC : w28.cell? ⟨bT, 7, none⟩ = some (.bool fG) := (aG aW.out 7).trans rfl; have qeX := aC aW.out 0; have qeY := aC aW.out 1; have qeZ := aC aW.out 2; have qiD := aC aW.out 3; have qiE := aC aW.out 4; have qiF := aC aW.out 5; have qiG := aC aW.out 6; have qiH := aC aW.out 7) | ((with_reducible refine jX (f := 50) rfl ?_); refine vN (some 5) rfl rfl Tryz.func50 (by kernel_rfl) rfl #[.agg #[.slice dR aZ.length dS, .bool bW, .int .i64 bY, .int .i64 bZ]] rfl (by (try simp only [List.map_toArray, List.map_cons, List.map_nil]); first | done | rfl | (simp only [List.length_drop, List.length_take]; rfl)) ?_; (with_reducible refine (dN.calls _ _ aZ bW bY bZ yX _ ?qW ?qX A2.out).mono ?_); (case qW => repeat (first | exact (Kd.fC AB.out HB.out) | (with_reducible refine Kd.rP ?_ _) | (with_reducible refine Kd.rQ ?_ _) | (with_reducible refine Kd.vM ?_))); (case qX => exact AL.out); rintro e w30 ⟨rfl, hb⟩; refine ⟨_, rfl, ?_⟩; have n0_ := aA.mk (bG (g := bT) (o := .cells #[.slice dR aZ.length dS, .bool bW, .int .i64 bY, .int .i64 bZ, .int .i64 eU, .int .u64 eY, .int .u64 eF, .bool fG] 30 (0, 0)) (by (with_reducible repeat (first | refine bU ?_ _ | refine bJ ?_ | refine bD ?_ _)); exact aW.out) hb); have n1_ := aA.mk (bC (by repeat (first | (with_reducible first | exact HB.out | apply aT | apply aU | apply aY | refine bH ?_ qV.out) | exact HB.out)) hb); clear aW; clear HB; have aW := n0_; have HB := n1_; clear n0_ n1_; (try clear hb); (try clear hb2); (try clear hk); (try clear hi)))
    go_ret
    exact ⟨by first | rfl | (simp [gI, gJ] <;> rfl) | (simp [*, gI, gJ] <;> rfl), by repeat (first | (with_reducible first | exact HB.out | apply aT | apply aU | apply aY | refine bH ?_ qV.out) | exact HB.out)⟩
end Go.Proofs.YtanonhipicoigaaGreatDoor.U
namespace Go.Proofs.YtanonhipicoigaaGreatDoor.U
open Go.RowKit Go.Proofs.YW.PrintWords Go.Proofs.YW.PrintLast Go.Proofs.YW.PrintMore Go.Proofs.YtanonhipicoigaaGreatDoor.Sp Go.Proofs.YtanonhipicoigaaGreatDoor.eP
def okL (L : Lg) : Prop := bI L.l = true ∧ 1 ≤ L.size ∧ L.size ≤ 262144 ∧ L.fr ≤ L.nx ∧ L.nx ≤ 4611686018427387904
open Classical in
theorem xW (L : Lg) : fK.f L.l L.dn L.fu L.fa L.size L.fr L.nx L.br = some (if okL L then 0 else 6) := by
  unfold fK.f dN.f okL
  by_cases h : bI L.l = true
  · simp only [if_pos h, Option.bind_some, if_true]
    by_cases h1 : L.size < 1
    · rw [if_pos h1, if_neg (fun x => by omega)]
    · rw [if_neg h1]
      by_cases h2 : L.size > 262144
      · rw [if_pos h2, if_neg (fun x => by omega)]
      · rw [if_neg h2]
        by_cases h3 : L.fr > L.nx
        · rw [if_pos h3, if_neg (fun x => by omega)]
        · rw [if_neg h3]
          by_cases h4 : L.nx > 4611686018427387904
          · rw [if_pos h4, if_neg (fun x => by omega)]
          · rw [if_neg h4, if_pos ⟨h, by omega, by omega, by omega, by omega⟩]
  · simp only [if_neg h, Option.bind_some]
    rw [if_neg (by decide), if_neg (fun x => h x.1)]
open Classical in
noncomputable def bV (L : Lg) (d : ByteArray) : Lg × Int := if okL L then jG L d else (Lz, 6)
set_option maxHeartbeats 8000000 in
set_option maxRecDepth 100000 in
theorem XF (A : Option Addr) (c : Nat) (l : List S67) (dn : Bool) (fu fa size fr : Int) (n : Nat) (br : Bool) (d : ByteArray) (w : World) (hr : Kd.C k67 w A l.length l) (hc : l.length ≤ c) (hG : Gl w) (hn : n < 18446744073709551616) :
  Calls Tryz.prog 31 #[.agg #[.slice A l.length c, .bool dn, .int .i64 fu, .int .i64 fa, .int .i64 size, .int .u64 fr, .int .u64 (n : Int), .bool br], .string d] w fun e w' => ∃ A' c', e = .returned (.tuple #[.agg (lgc A' c' (bV ⟨l, dn, fu, fa, size, fr, (n : Int), br⟩ d).1).toArray, .int .i64 (bV ⟨l, dn, fu, fa, size, fr, (n : Int), br⟩ d).2])
   ∧ aA (Sep w w' [oK A' c' (bV ⟨l, dn, fu, fa, size, fr, (n : Int), br⟩ d).1.l]) := by
 have HRp := aA.mk hr
 have HCp := aA.mk hc
 have HG := aA.mk hG
 clear hr hc hG
 obtain ⟨O, hO⟩ : ∃ O, O = bV ⟨l, dn, fu, fa, size, fr, (n : Int), br⟩ d := ⟨_, rfl⟩
 rw [← hO]
 have HO := aA.mk hO
 clear hO
 have H := aA.mk (Sep.start w)
 go_enter Tryz.func31, Tryz.ntmps31
 go_wp2_with (first
 |((with_reducible refine aN (N := 2) rfl ?_);
   refine aX rfl H (cs := [.slice A l.length c, .bool dn, .int .i64 fu, .int .i64 fa, .int .i64 size, .int .u64 fr, .int .u64 (n : Int), .bool br]) (t := 30) ?hr ?_;
   (case hr => first | (go_simp; done) | (go_simp; rfl));
   intro gm wd1 n_;
   simp only [Act.put, zA, zZ, zS];
   clear H;
   have H := n_;
   clear n_;
   have c_m := H.out.cell (g := gm) aH)
 |((with_reducible refine aN (N := 3) rfl ?_);
   refine aX rfl H (cs := [.string d]) (t := 9) ?hr ?_;
   (case hr => first | (go_simp; done) | (go_simp; rfl));
   intro gt wd2 n_;
   simp only [Act.put, zA, zZ, zS];
   clear H c_m;
   have H := n_;
   clear n_;
   have c_t := H.out.cell (g := gt) aH;
   have c_m := H.out.cell (g := gm) mem1)
 |((with_reducible refine aN (N := 4) rfl ?_);
   refine aX rfl H (cs := [.slice none 0 0, .bool false, .int .i64 0, .int .i64 0, .int .i64 0, .int .u64 0, .int .u64 0, .bool false]) (t := 30) ?hr ?_;
   (case hr => first | (go_simp; done) | (go_simp; rfl));
   intro gz wd3 n_;
   simp only [Act.put, zA, zZ, zS];
   clear H c_t c_m;
   have H := n_;
   clear n_;
   have c_z := H.out.cell (g := gz) aH;
   have c_t := H.out.cell (g := gt) mem1;
   have c_m := H.out.cell (g := gm) mem2)
 |fail)
 by_cases hok : okL ⟨l, dn, fu, fa, size, fr, (n : Int), br⟩
 ·
  refine ((fK.calls A c l dn fu fa size fr (n : Int) br 0 _ (H.out.came HRp.out) HCp.out (by have h := xW ⟨l, dn, fu, fa, size, fr, (n : Int), br⟩; rw [if_pos hok] at h; exact h)).mono ?_)
  rintro e wd4 ⟨rfl, hb_⟩
  have n_ : aA (Sep w wd4 [box gz [.slice none 0 0, .bool false, .int .i64 0, .int .i64 0, .int .i64 0, .int .u64 0, .int .u64 0, .bool false] 30, box gt [.string d] 9, box gm [.slice A l.length c, .bool dn, .int .i64 fu, .int .i64 fa, .int .i64 size, .int .u64 fr, .int .u64 (n : Int), .bool br] 30]) := ⟨H.out.step hb_⟩
  clear H c_z c_t c_m
  have H := n_
  clear n_
  have c_z := H.out.cell (g := gz) aH
  have c_t := H.out.cell (g := gt) mem1
  have c_m := H.out.cell (g := gm) mem2
  clear hb_
  have hlen : l.length ≤ 64 := jV hok.1
  have hs1 : 1 ≤ size := hok.2.1
  have hs2 : size ≤ 262144 := hok.2.2.1
  have hok1 : bI l = true := hok.1
  have XC := aA.mk hok1
  have hOV : O = jG ⟨l, dn, fu, fa, size, fr, (n : Int), br⟩ d := by rw [HO.out, bV, if_pos hok]
  have HOV := aA.mk hOV
  clear hok hok1 HO hOV
  go_wp2_with fail
  refine ((TM A c l dn fu fa _ (H.out.came HRp.out) hlen).mono ?_)
  rintro e wd5 ⟨A3, c3, rfl, HJ⟩
  have n_ : aA (Sep w wd5 [row k67 67 (.slice A3 (l).length c3) l, box gz [.slice none 0 0, .bool false, .int .i64 0, .int .i64 0, .int .i64 0, .int .u64 0, .int .u64 0, .bool false] 30, box gt [.string d] 9, box gm [.slice A l.length c, .bool dn, .int .i64 fu, .int .i64 fa, .int .i64 size, .int .u64 fr, .int .u64 (n : Int), .bool br] 30]) := ⟨dI H.out HJ.out⟩
  clear H c_z c_t c_m
  have H := n_
  clear n_
  have c_z := H.out.cell (g := gz) mem1
  have c_t := H.out.cell (g := gt) mem2
  have c_m := H.out.cell (g := gm) mem3
  have z_m := H.out.frozen (g := gm) mem3
  clear HJ
  go_wp2_with (first
 |((with_reducible refine aK (t := 27) (p := 14) rfl ?_);
   refine aV (rs1 := [row k67 67 (.slice A3 (l).length c3) l, box gz [.slice none 0 0, .bool false, .int .i64 0, .int .i64 0, .int .i64 0, .int .u64 0, .int .u64 0, .bool false] 30, box gt [.string d] 9, box gm [.slice A3 l.length c3, .bool dn, .int .i64 fu, .int .i64 fa, .int .i64 size, .int .u64 fr, .int .u64 (n : Int), .bool br] 30]) rfl (t := 27) (p := 14) rfl rfl ?hr (H1 := (Sep.dQ (Sep.dQ (Sep.dQ (Sep.dQ H.out 0 (.slice A3 l.length c3) rfl) 1 (.bool dn) rfl) 2 (.int .i64 fu) rfl) 3 (.int .i64 fa) rfl)) ?_;
   (case hr => first | (go_simp; done) | (go_simp; rfl));
   intro wd6 n_;
   clear H c_z c_t c_m z_m;
   have H := n_;
   clear n_;
   have c_z := H.out.cell (g := gz) mem1;
   have c_t := H.out.cell (g := gt) mem2;
   have c_m := H.out.cell (g := gm) mem3;
   have z_m := H.out.frozen (g := gm) mem3)
 |((with_reducible refine aN (N := 17) rfl ?_);
   refine aX rfl H (cs := [.slice A3 l.length c3, .bool dn, .int .i64 fu, .int .i64 fa, .int .i64 size, .int .u64 fr, .int .u64 (n : Int), .bool br]) (t := 134) ?hr ?_;
   (case hr => first | (go_simp; done) | (go_simp; rfl));
   intro gl wd7 n_;
   simp only [Act.put, zA, zZ, zS];
   clear H c_z c_t c_m z_m;
   have H := n_;
   clear n_;
   have c_l := H.out.cell (g := gl) aH;
   have c_z := H.out.cell (g := gz) mem2;
   have c_t := H.out.cell (g := gt) mem3;
   have c_m := H.out.cell (g := gm) bM;
   have z_m := H.out.frozen (g := gm) bM)
 |((with_reducible refine aN (N := 6) rfl ?_);
   refine aX rfl H (cs := [.pointer none]) (t := 131) ?hr ?_;
   (case hr => first | (go_simp; done) | (go_simp; rfl));
   intro gv wd8 n_;
   simp only [Act.put, zA, zZ, zS];
   clear H c_l c_z c_t c_m z_m;
   have H := n_;
   clear n_;
   have c_v := H.out.cell (g := gv) aH;
   have z_v := H.out.frozen (g := gv) aH;
   have c_l := H.out.cell (g := gl) mem1;
   have c_z := H.out.cell (g := gz) mem3;
   have c_t := H.out.cell (g := gt) bM;
   have c_m := H.out.cell (g := gm) dM;
   have z_m := H.out.frozen (g := gm) dM)
 |((with_reducible refine aK (t := 131) (p := 6) rfl ?_);
   refine aV (rs1 := [box gv [.pointer (some ⟨gl, 0, none⟩)] 131, box gl [.slice A3 l.length c3, .bool dn, .int .i64 fu, .int .i64 fa, .int .i64 size, .int .u64 fr, .int .u64 (n : Int), .bool br] 134, row k67 67 (.slice A3 (l).length c3) l, box gz [.slice none 0 0, .bool false, .int .i64 0, .int .i64 0, .int .i64 0, .int .u64 0, .int .u64 0, .bool false] 30, box gt [.string d] 9, box gm [.slice A3 l.length c3, .bool dn, .int .i64 fu, .int .i64 fa, .int .i64 size, .int .u64 fr, .int .u64 (n : Int), .bool br] 30]) rfl (t := 131) (p := 6) rfl rfl ?hr (H1 := (Sep.set0 H.out 0 (.pointer (some ⟨gl, 0, none⟩)) rfl)) ?_;
   (case hr => first | (go_simp; done) | (go_simp; rfl));
   intro wd9 n_;
   clear H c_v z_v c_l c_z c_t c_m z_m;
   have H := n_;
   clear n_;
   have c_v := H.out.cell (g := gv) aH;
   have z_v := H.out.frozen (g := gv) aH;
   have c_l := H.out.cell (g := gl) mem1;
   have c_z := H.out.cell (g := gz) mem3;
   have c_t := H.out.cell (g := gt) bM;
   have c_m := H.out.cell (g := gm) dM;
   have z_m := H.out.frozen (g := gm) dM)
 |fail)
  have hdo := xK (qcm w gl gm gt gv l dn fu fa size fr n br d A3 c3 XC.out (HG.out) hn hs1 hs2) [box gz [.slice none 0 0, .bool false, .int .i64 0, .int .i64 0, .int .i64 0, .int .u64 0, .int .u64 0, .bool false] 30]
  rw [← HOV.out] at hdo
  refine (C9 hdo (fun args w => by simp [go_sem]) A3 c3 _ ⟨(Sep.sN (Sep.sN (Sep.sN (Sep.jA (Sep.iE (Sep.kF H.out))))))⟩).mono ?_
  rintro e DC ⟨A4, c4, rfl, H2⟩
  clear hdo
  have n_ : aA (Sep w DC [box gl [.slice A4 O.1.l.length c4, .bool O.1.dn, .int .i64 O.1.fu, .int .i64 O.1.fa, .int .i64 O.1.size, .int .u64 O.1.fr, .int .u64 O.1.nx, .bool O.1.br] 134, row k67 67 (.slice A4 (O.1.l).length c4) O.1.l, box gm [.slice A3 l.length c3, .bool dn, .int .i64 fu, .int .i64 fa, .int .i64 size, .int .u64 fr, .int .u64 (n : Int), .bool br] 30, box gt [.string d] 9, box gv [.pointer (some ⟨gl, 0, none⟩)] 131, box gz [.slice none 0 0, .bool false, .int .i64 0, .int .i64 0, .int .i64 0, .int .u64 0, .int .u64 0, .bool false] 30]) := ⟨H2.out⟩
  clear H c_v z_v c_l c_z c_t c_m z_m
  have H := n_
  clear n_
  have c_l := H.out.cell (g := gl) aH
  have c_m := H.out.cell (g := gm) mem2
  have c_t := H.out.cell (g := gt) mem3
  have c_v := H.out.cell (g := gv) bM
  have c_z := H.out.cell (g := gz) dM
  have z_z := H.out.frozen (g := gz) dM
  clear H2
  simp only [lgc]
  go_wp2_with (first
 |((with_reducible refine aK (t := 30) (p := 4) rfl ?_);
   refine aV (rs1 := [box gl [.slice A4 O.1.l.length c4, .bool O.1.dn, .int .i64 O.1.fu, .int .i64 O.1.fa, .int .i64 O.1.size, .int .u64 O.1.fr, .int .u64 O.1.nx, .bool O.1.br] 134, row k67 67 (.slice A4 (O.1.l).length c4) O.1.l, box gm [.slice A3 l.length c3, .bool dn, .int .i64 fu, .int .i64 fa, .int .i64 size, .int .u64 fr, .int .u64 (n : Int), .bool br] 30, box gt [.string d] 9, box gv [.pointer (some ⟨gl, 0, none⟩)] 131, box gz [.slice A4 O.1.l.length c4, .bool O.1.dn, .int .i64 O.1.fu, .int .i64 O.1.fa, .int .i64 O.1.size, .int .u64 O.1.fr, .int .u64 O.1.nx, .bool O.1.br] 30]) rfl (t := 30) (p := 4) rfl rfl ?hr (H1 := (Sep.gZ (Sep.gZ (Sep.gZ (Sep.gZ (Sep.gZ (Sep.gZ (Sep.gZ (Sep.gZ H.out 0 (.slice A4 O.1.l.length c4) rfl) 1 (.bool O.1.dn) rfl) 2 (.int .i64 O.1.fu) rfl) 3 (.int .i64 O.1.fa) rfl) 4 (.int .i64 O.1.size) rfl) 5 (.int .u64 O.1.fr) rfl) 6 (.int .u64 O.1.nx) rfl) 7 (.bool O.1.br) rfl)) ?_;
   (case hr => first | (go_simp; done) | (go_simp; rfl));
   intro MO n_;
   clear H c_l c_m c_t c_v c_z z_z;
   have H := n_;
   clear n_;
   have c_l := H.out.cell (g := gl) aH;
   have c_m := H.out.cell (g := gm) mem2;
   have c_t := H.out.cell (g := gt) mem3;
   have c_v := H.out.cell (g := gv) bM;
   have c_z := H.out.cell (g := gz) dM;
   have z_z := H.out.frozen (g := gz) dM)
 |fail)
  refine bodyPost_ret (dO (rs := [.cell 4 30, .tmp 5]) rfl (by simp) (.cell gz 30 _ _ _ rfl (H.out.lG (g := gz) dM) Tryz.underlying30 rfl info30 (.tmp .nil))) rfl ?_
  exact ⟨A4, c4, rfl, ⟨(Sep.dW (Sep.drop2 (Sep.iZ (Sep.lH (Sep.wX H.out)))))⟩⟩
 ·
  refine ((fK.calls A c l dn fu fa size fr (n : Int) br 6 _ (H.out.came HRp.out) HCp.out (by have h := xW ⟨l, dn, fu, fa, size, fr, (n : Int), br⟩; rw [if_neg hok] at h; exact h)).mono ?_)
  rintro e yV ⟨rfl, hb_⟩
  have n_ : aA (Sep w yV [box gz [.slice none 0 0, .bool false, .int .i64 0, .int .i64 0, .int .i64 0, .int .u64 0, .int .u64 0, .bool false] 30, box gt [.string d] 9, box gm [.slice A l.length c, .bool dn, .int .i64 fu, .int .i64 fa, .int .i64 size, .int .u64 fr, .int .u64 (n : Int), .bool br] 30]) := ⟨H.out.step hb_⟩
  clear H c_z c_t c_m
  have H := n_
  clear n_
  have c_z := H.out.cell (g := gz) aH
  have c_t := H.out.cell (g := gt) mem1
  have c_m := H.out.cell (g := gm) mem2
  clear hb_
  have hOV : O = (Lz, 6) := by rw [HO.out, bV, if_neg hok]
  clear HO hok
  clear c_z c_t c_m
  have c_z := H.out.cell (g := gz) aH
  have z_z := H.out.frozen (g := gz) aH
  have c_t := H.out.cell (g := gt) mem1
  have c_m := H.out.cell (g := gm) mem2
  go_wp2_with (first
 |((with_reducible refine aK (t := 30) (p := 4) rfl ?_);
   refine aV (rs1 := [box gz [.slice none 0 0, .bool false, .int .i64 0, .int .i64 0, .int .i64 0, .int .u64 0, .int .u64 0, .bool false] 30, box gt [.string d] 9, box gm [.slice A l.length c, .bool dn, .int .i64 fu, .int .i64 fa, .int .i64 size, .int .u64 fr, .int .u64 (n : Int), .bool br] 30]) rfl (t := 30) (p := 4) rfl rfl ?hr (H1 := (Sep.set0 (Sep.set0 (Sep.set0 (Sep.set0 (Sep.set0 (Sep.set0 (Sep.set0 (Sep.set0 H.out 0 (.slice none 0 0) rfl) 1 (.bool false) rfl) 2 (.int .i64 0) rfl) 3 (.int .i64 0) rfl) 4 (.int .i64 0) rfl) 5 (.int .u64 0) rfl) 6 (.int .u64 0) rfl) 7 (.bool false) rfl)) ?_;
   (case hr => first | (go_simp; done) | (go_simp; rfl));
   intro DF n_;
   clear H c_z z_z c_t c_m;
   have H := n_;
   clear n_;
   have c_z := H.out.cell (g := gz) aH;
   have z_z := H.out.frozen (g := gz) aH;
   have c_t := H.out.cell (g := gt) mem1;
   have c_m := H.out.cell (g := gm) mem2)
 |fail)
  refine bodyPost_ret (dO (rs := [.cell 4 30, .tmp 5]) rfl (by simp) (.cell gz 30 _ _ _ rfl (H.out.lG (g := gz) aH) Tryz.underlying30 rfl info30 (.tmp .nil))) rfl ?_
  subst hOV
  exact ⟨none, 0, rfl, ⟨Sep.eG (Sep.dW (Sep.drop1 (Sep.drop2 H.out)))⟩⟩
theorem PI (A : Option Addr) (c : Nat) (L : Lg) (d : ByteArray) (w : World) (hr : Kd.C k67 w A L.l.length L.l) (hc : L.l.length ≤ c) (hG : Gl w) (h0 : 0 ≤ L.nx) (hn : L.nx < 18446744073709551616) :
  Calls Tryz.prog 31 #[.agg (lgc A c L).toArray, .string d] w fun e w' => ∃ A' c', e = .returned (.tuple #[.agg (lgc A' c' (bV L d).1).toArray, .int .i64 (bV L d).2])
   ∧ aA (Sep w w' [oK A' c' (bV L d).1.l]) := by
 obtain ⟨l, dn, fu, fa, size, fr, nx, br⟩ := L
 obtain ⟨n, hnn⟩ := Int.eq_ofNat_of_zero_le h0
 simp only at hnn
 subst hnn
 simp only at hn
 exact XF A c l dn fu fa size fr n br d w hr hc hG (by omega)
open Classical in
noncomputable def qY (L : Lg) (q : Int) : Lg × Int := if okL L then uM L q else (Lz, 6)
set_option maxHeartbeats 8000000 in
set_option maxRecDepth 100000 in
theorem qco (A : Option Addr) (c : Nat) (l : List S67) (dn : Bool) (fu fa size fr : Int) (n : Nat) (br : Bool) (q : Int) (hq : 0 ≤ q) (w : World) (hr : Kd.C k67 w A l.length l) (hc : l.length ≤ c) (hG : Gl w) (hn : n < 18446744073709551616) :
  Calls Tryz.prog 34 #[.agg #[.slice A l.length c, .bool dn, .int .i64 fu, .int .i64 fa, .int .i64 size, .int .u64 fr, .int .u64 (n : Int), .bool br], .int .u64 q] w fun e w' => ∃ A' c', e = .returned (.tuple #[.agg (lgc A' c' (qY ⟨l, dn, fu, fa, size, fr, (n : Int), br⟩ q).1).toArray, .int .i64 (qY ⟨l, dn, fu, fa, size, fr, (n : Int), br⟩ q).2])
   ∧ aA (Sep w w' [oK A' c' (qY ⟨l, dn, fu, fa, size, fr, (n : Int), br⟩ q).1.l]) := by
 have HRp := aA.mk hr
 have HCp := aA.mk hc
 have HG := aA.mk hG
 clear hr hc hG
 obtain ⟨O, hO⟩ : ∃ O, O = qY ⟨l, dn, fu, fa, size, fr, (n : Int), br⟩ q := ⟨_, rfl⟩
 rw [← hO]
 have HO := aA.mk hO
 clear hO
 have H := aA.mk (Sep.start w)
 go_enter Tryz.func34, Tryz.ntmps34
 go_wp2_with (first
 |((with_reducible refine aN (N := 2) rfl ?_);
   refine aX rfl H (cs := [.slice A l.length c, .bool dn, .int .i64 fu, .int .i64 fa, .int .i64 size, .int .u64 fr, .int .u64 (n : Int), .bool br]) (t := 30) ?hr ?_;
   (case hr => first | (go_simp; done) | (go_simp; rfl));
   intro gm wd1 n_;
   simp only [Act.put, zA, zZ, zS];
   clear H;
   have H := n_;
   clear n_;
   have c_m := H.out.cell (g := gm) aH)
 |((with_reducible refine aN (N := 3) rfl ?_);
   refine aX rfl H (cs := [.int .u64 q]) (t := 28) ?hr ?_;
   (case hr => first | (go_simp; done) | (go_simp; rfl));
   intro gt wd2 n_;
   simp only [Act.put, zA, zZ, zS];
   clear H c_m;
   have H := n_;
   clear n_;
   have c_t := H.out.cell (g := gt) aH;
   have c_m := H.out.cell (g := gm) mem1)
 |((with_reducible refine aN (N := 4) rfl ?_);
   refine aX rfl H (cs := [.slice none 0 0, .bool false, .int .i64 0, .int .i64 0, .int .i64 0, .int .u64 0, .int .u64 0, .bool false]) (t := 30) ?hr ?_;
   (case hr => first | (go_simp; done) | (go_simp; rfl));
   intro gz wd3 n_;
   simp only [Act.put, zA, zZ, zS];
   clear H c_t c_m;
   have H := n_;
   clear n_;
   have c_z := H.out.cell (g := gz) aH;
   have c_t := H.out.cell (g := gt) mem1;
   have c_m := H.out.cell (g := gm) mem2)
 |fail)
 by_cases hok : okL ⟨l, dn, fu, fa, size, fr, (n : Int), br⟩
 ·
  refine ((fK.calls A c l dn fu fa size fr (n : Int) br 0 _ (H.out.came HRp.out) HCp.out (by have h := xW ⟨l, dn, fu, fa, size, fr, (n : Int), br⟩; rw [if_pos hok] at h; exact h)).mono ?_)
  rintro e wd4 ⟨rfl, hb_⟩
  have n_ : aA (Sep w wd4 [box gz [.slice none 0 0, .bool false, .int .i64 0, .int .i64 0, .int .i64 0, .int .u64 0, .int .u64 0, .bool false] 30, box gt [.int .u64 q] 28, box gm [.slice A l.length c, .bool dn, .int .i64 fu, .int .i64 fa, .int .i64 size, .int .u64 fr, .int .u64 (n : Int), .bool br] 30]) := ⟨H.out.step hb_⟩
  clear H c_z c_t c_m
  have H := n_
  clear n_
  have c_z := H.out.cell (g := gz) aH
  have c_t := H.out.cell (g := gt) mem1
  have c_m := H.out.cell (g := gm) mem2
  clear hb_
  have hlen : l.length ≤ 64 := jV hok.1
  have hs1 : 1 ≤ size := hok.2.1
  have hs2 : size ≤ 262144 := hok.2.2.1
  have hok1 : bI l = true := hok.1
  have XC := aA.mk hok1
  have hOV : O = uM ⟨l, dn, fu, fa, size, fr, (n : Int), br⟩ q := by rw [HO.out, qY, if_pos hok]
  have HOV := aA.mk hOV
  clear hok hok1 HO hOV
  go_wp2_with fail
  refine ((TM A c l dn fu fa _ (H.out.came HRp.out) hlen).mono ?_)
  rintro e wd5 ⟨A3, c3, rfl, HJ⟩
  have n_ : aA (Sep w wd5 [row k67 67 (.slice A3 (l).length c3) l, box gz [.slice none 0 0, .bool false, .int .i64 0, .int .i64 0, .int .i64 0, .int .u64 0, .int .u64 0, .bool false] 30, box gt [.int .u64 q] 28, box gm [.slice A l.length c, .bool dn, .int .i64 fu, .int .i64 fa, .int .i64 size, .int .u64 fr, .int .u64 (n : Int), .bool br] 30]) := ⟨dI H.out HJ.out⟩
  clear H c_z c_t c_m
  have H := n_
  clear n_
  have c_z := H.out.cell (g := gz) mem1
  have c_t := H.out.cell (g := gt) mem2
  have c_m := H.out.cell (g := gm) mem3
  have z_m := H.out.frozen (g := gm) mem3
  clear HJ
  go_wp2_with (first
 |((with_reducible refine aK (t := 27) (p := 14) rfl ?_);
   refine aV (rs1 := [row k67 67 (.slice A3 (l).length c3) l, box gz [.slice none 0 0, .bool false, .int .i64 0, .int .i64 0, .int .i64 0, .int .u64 0, .int .u64 0, .bool false] 30, box gt [.int .u64 q] 28, box gm [.slice A3 l.length c3, .bool dn, .int .i64 fu, .int .i64 fa, .int .i64 size, .int .u64 fr, .int .u64 (n : Int), .bool br] 30]) rfl (t := 27) (p := 14) rfl rfl ?hr (H1 := (Sep.dQ (Sep.dQ (Sep.dQ (Sep.dQ H.out 0 (.slice A3 l.length c3) rfl) 1 (.bool dn) rfl) 2 (.int .i64 fu) rfl) 3 (.int .i64 fa) rfl)) ?_;
   (case hr => first | (go_simp; done) | (go_simp; rfl));
   intro wd6 n_;
   clear H c_z c_t c_m z_m;
   have H := n_;
   clear n_;
   have c_z := H.out.cell (g := gz) mem1;
   have c_t := H.out.cell (g := gt) mem2;
   have c_m := H.out.cell (g := gm) mem3;
   have z_m := H.out.frozen (g := gm) mem3)
 |((with_reducible refine aN (N := 17) rfl ?_);
   refine aX rfl H (cs := [.slice A3 l.length c3, .bool dn, .int .i64 fu, .int .i64 fa, .int .i64 size, .int .u64 fr, .int .u64 (n : Int), .bool br]) (t := 134) ?hr ?_;
   (case hr => first | (go_simp; done) | (go_simp; rfl));
   intro gl wd7 n_;
   simp only [Act.put, zA, zZ, zS];
   clear H c_z c_t c_m z_m;
   have H := n_;
   clear n_;
   have c_l := H.out.cell (g := gl) aH;
   have c_z := H.out.cell (g := gz) mem2;
   have c_t := H.out.cell (g := gt) mem3;
   have c_m := H.out.cell (g := gm) bM;
   have z_m := H.out.frozen (g := gm) bM)
 |((with_reducible refine aN (N := 6) rfl ?_);
   refine aX rfl H (cs := [.pointer none]) (t := 131) ?hr ?_;
   (case hr => first | (go_simp; done) | (go_simp; rfl));
   intro gv wd8 n_;
   simp only [Act.put, zA, zZ, zS];
   clear H c_l c_z c_t c_m z_m;
   have H := n_;
   clear n_;
   have c_v := H.out.cell (g := gv) aH;
   have z_v := H.out.frozen (g := gv) aH;
   have c_l := H.out.cell (g := gl) mem1;
   have c_z := H.out.cell (g := gz) mem3;
   have c_t := H.out.cell (g := gt) bM;
   have c_m := H.out.cell (g := gm) dM;
   have z_m := H.out.frozen (g := gm) dM)
 |((with_reducible refine aK (t := 131) (p := 6) rfl ?_);
   refine aV (rs1 := [box gv [.pointer (some ⟨gl, 0, none⟩)] 131, box gl [.slice A3 l.length c3, .bool dn, .int .i64 fu, .int .i64 fa, .int .i64 size, .int .u64 fr, .int .u64 (n : Int), .bool br] 134, row k67 67 (.slice A3 (l).length c3) l, box gz [.slice none 0 0, .bool false, .int .i64 0, .int .i64 0, .int .i64 0, .int .u64 0, .int .u64 0, .bool false] 30, box gt [.int .u64 q] 28, box gm [.slice A3 l.length c3, .bool dn, .int .i64 fu, .int .i64 fa, .int .i64 size, .int .u64 fr, .int .u64 (n : Int), .bool br] 30]) rfl (t := 131) (p := 6) rfl rfl ?hr (H1 := (Sep.set0 H.out 0 (.pointer (some ⟨gl, 0, none⟩)) rfl)) ?_;
   (case hr => first | (go_simp; done) | (go_simp; rfl));
   intro wd9 n_;
   clear H c_v z_v c_l c_z c_t c_m z_m;
   have H := n_;
   clear n_;
   have c_v := H.out.cell (g := gv) aH;
   have z_v := H.out.frozen (g := gv) aH;
   have c_l := H.out.cell (g := gl) mem1;
   have c_z := H.out.cell (g := gz) mem3;
   have c_t := H.out.cell (g := gt) bM;
   have c_m := H.out.cell (g := gm) dM;
   have z_m := H.out.frozen (g := gm) dM)
 |fail)
  have hdo := xK (qeN w gl gm gt gv l dn fu fa size fr n br q A3 c3 XC.out (HG.out) hn hq) [box gz [.slice none 0 0, .bool false, .int .i64 0, .int .i64 0, .int .i64 0, .int .u64 0, .int .u64 0, .bool false] 30]
  rw [← HOV.out] at hdo
  refine (C9 hdo (fun args w => by simp [go_sem]) A3 c3 _ ⟨(Sep.sN (Sep.sN (Sep.sN (Sep.jA (Sep.iE (Sep.kF H.out))))))⟩).mono ?_
  rintro e DC ⟨A4, c4, rfl, H2⟩
  clear hdo
  have n_ : aA (Sep w DC [box gl [.slice A4 O.1.l.length c4, .bool O.1.dn, .int .i64 O.1.fu, .int .i64 O.1.fa, .int .i64 O.1.size, .int .u64 O.1.fr, .int .u64 O.1.nx, .bool O.1.br] 134, row k67 67 (.slice A4 (O.1.l).length c4) O.1.l, box gm [.slice A3 l.length c3, .bool dn, .int .i64 fu, .int .i64 fa, .int .i64 size, .int .u64 fr, .int .u64 (n : Int), .bool br] 30, box gt [.int .u64 q] 28, box gv [.pointer (some ⟨gl, 0, none⟩)] 131, box gz [.slice none 0 0, .bool false, .int .i64 0, .int .i64 0, .int .i64 0, .int .u64 0, .int .u64 0, .bool false] 30]) := ⟨H2.out⟩
  clear H c_v z_v c_l c_z c_t c_m z_m
  have H := n_
  clear n_
  have c_l := H.out.cell (g := gl) aH
  have c_m := H.out.cell (g := gm) mem2
  have c_t := H.out.cell (g := gt) mem3
  have c_v := H.out.cell (g := gv) bM
  have c_z := H.out.cell (g := gz) dM
  have z_z := H.out.frozen (g := gz) dM
  clear H2
  simp only [lgc]
  go_wp2_with (first
 |((with_reducible refine aK (t := 30) (p := 4) rfl ?_);
   refine aV (rs1 := [box gl [.slice A4 O.1.l.length c4, .bool O.1.dn, .int .i64 O.1.fu, .int .i64 O.1.fa, .int .i64 O.1.size, .int .u64 O.1.fr, .int .u64 O.1.nx, .bool O.1.br] 134, row k67 67 (.slice A4 (O.1.l).length c4) O.1.l, box gm [.slice A3 l.length c3, .bool dn, .int .i64 fu, .int .i64 fa, .int .i64 size, .int .u64 fr, .int .u64 (n : Int), .bool br] 30, box gt [.int .u64 q] 28, box gv [.pointer (some ⟨gl, 0, none⟩)] 131, box gz [.slice A4 O.1.l.length c4, .bool O.1.dn, .int .i64 O.1.fu, .int .i64 O.1.fa, .int .i64 O.1.size, .int .u64 O.1.fr, .int .u64 O.1.nx, .bool O.1.br] 30]) rfl (t := 30) (p := 4) rfl rfl ?hr (H1 := (Sep.gZ (Sep.gZ (Sep.gZ (Sep.gZ (Sep.gZ (Sep.gZ (Sep.gZ (Sep.gZ H.out 0 (.slice A4 O.1.l.length c4) rfl) 1 (.bool O.1.dn) rfl) 2 (.int .i64 O.1.fu) rfl) 3 (.int .i64 O.1.fa) rfl) 4 (.int .i64 O.1.size) rfl) 5 (.int .u64 O.1.fr) rfl) 6 (.int .u64 O.1.nx) rfl) 7 (.bool O.1.br) rfl)) ?_;
   (case hr => first | (go_simp; done) | (go_simp; rfl));
   intro MO n_;
   clear H c_l c_m c_t c_v c_z z_z;
   have H := n_;
   clear n_;
   have c_l := H.out.cell (g := gl) aH;
   have c_m := H.out.cell (g := gm) mem2;
   have c_t := H.out.cell (g := gt) mem3;
   have c_v := H.out.cell (g := gv) bM;
   have c_z := H.out.cell (g := gz) dM;
   have z_z := H.out.frozen (g := gz) dM)
 |fail)
  refine bodyPost_ret (dO (rs := [.cell 4 30, .tmp 5]) rfl (by simp) (.cell gz 30 _ _ _ rfl (H.out.lG (g := gz) dM) Tryz.underlying30 rfl info30 (.tmp .nil))) rfl ?_
  exact ⟨A4, c4, rfl, ⟨(Sep.dW (Sep.drop2 (Sep.iZ (Sep.lH (Sep.wX H.out)))))⟩⟩
 ·
  refine ((fK.calls A c l dn fu fa size fr (n : Int) br 6 _ (H.out.came HRp.out) HCp.out (by have h := xW ⟨l, dn, fu, fa, size, fr, (n : Int), br⟩; rw [if_neg hok] at h; exact h)).mono ?_)
  rintro e yV ⟨rfl, hb_⟩
  have n_ : aA (Sep w yV [box gz [.slice none 0 0, .bool false, .int .i64 0, .int .i64 0, .int .i64 0, .int .u64 0, .int .u64 0, .bool false] 30, box gt [.int .u64 q] 28, box gm [.slice A l.length c, .bool dn, .int .i64 fu, .int .i64 fa, .int .i64 size, .int .u64 fr, .int .u64 (n : Int), .bool br] 30]) := ⟨H.out.step hb_⟩
  clear H c_z c_t c_m
  have H := n_
  clear n_
  have c_z := H.out.cell (g := gz) aH
  have c_t := H.out.cell (g := gt) mem1
  have c_m := H.out.cell (g := gm) mem2
  clear hb_
  have hOV : O = (Lz, 6) := by rw [HO.out, qY, if_neg hok]
  clear HO hok
  clear c_z c_t c_m
  have c_z := H.out.cell (g := gz) aH
  have z_z := H.out.frozen (g := gz) aH
  have c_t := H.out.cell (g := gt) mem1
  have c_m := H.out.cell (g := gm) mem2
  go_wp2_with (first
 |((with_reducible refine aK (t := 30) (p := 4) rfl ?_);
   refine aV (rs1 := [box gz [.slice none 0 0, .bool false, .int .i64 0, .int .i64 0, .int .i64 0, .int .u64 0, .int .u64 0, .bool false] 30, box gt [.int .u64 q] 28, box gm [.slice A l.length c, .bool dn, .int .i64 fu, .int .i64 fa, .int .i64 size, .int .u64 fr, .int .u64 (n : Int), .bool br] 30]) rfl (t := 30) (p := 4) rfl rfl ?hr (H1 := (Sep.set0 (Sep.set0 (Sep.set0 (Sep.set0 (Sep.set0 (Sep.set0 (Sep.set0 (Sep.set0 H.out 0 (.slice none 0 0) rfl) 1 (.bool false) rfl) 2 (.int .i64 0) rfl) 3 (.int .i64 0) rfl) 4 (.int .i64 0) rfl) 5 (.int .u64 0) rfl) 6 (.int .u64 0) rfl) 7 (.bool false) rfl)) ?_;
   (case hr => first | (go_simp; done) | (go_simp; rfl));
   intro DF n_;
   clear H c_z z_z c_t c_m;
   have H := n_;
   clear n_;
   have c_z := H.out.cell (g := gz) aH;
   have z_z := H.out.frozen (g := gz) aH;
   have c_t := H.out.cell (g := gt) mem1;
   have c_m := H.out.cell (g := gm) mem2)
 |fail)
  refine bodyPost_ret (dO (rs := [.cell 4 30, .tmp 5]) rfl (by simp) (.cell gz 30 _ _ _ rfl (H.out.lG (g := gz) aH) Tryz.underlying30 rfl info30 (.tmp .nil))) rfl ?_
  subst hOV
  exact ⟨none, 0, rfl, ⟨Sep.eG (Sep.dW (Sep.drop1 (Sep.drop2 H.out)))⟩⟩
theorem XG (A : Option Addr) (c : Nat) (L : Lg) (q : Int) (hq : 0 ≤ q) (w : World) (hr : Kd.C k67 w A L.l.length L.l) (hc : L.l.length ≤ c) (hG : Gl w) (h0 : 0 ≤ L.nx) (hn : L.nx < 18446744073709551616) :
  Calls Tryz.prog 34 #[.agg (lgc A c L).toArray, .int .u64 q] w fun e w' => ∃ A' c', e = .returned (.tuple #[.agg (lgc A' c' (qY L q).1).toArray, .int .i64 (qY L q).2])
   ∧ aA (Sep w w' [oK A' c' (qY L q).1.l]) := by
 obtain ⟨l, dn, fu, fa, size, fr, nx, br⟩ := L
 obtain ⟨n, hnn⟩ := Int.eq_ofNat_of_zero_le h0
 simp only at hnn
 subst hnn
 simp only at hn
 exact qco A c l dn fu fa size fr n br q hq w hr hc hG (by omega)
open Classical in
noncomputable def XH (L : Lg) : List S62 × Int := if okL L then (if L.br = true then ([], 6) else if L.dn = true then ([], 17) else (bQ (findF L.l).recs (dV (aP L.l)), 0)) else ([], 6)
structure Qu where
 L : Lg
 es : List S41
 most : Int
def qc (A : Option Addr) (c : Nat) (B : Option Addr) (d : Nat) (Q : Qu) : List Value := lgc A c Q.L ++ [.slice B Q.es.length d, .int .i64 Q.most]
abbrev sV (B : Option Addr) (d : Nat) (l : List S41) : Res := row k41 41 (.slice B l.length d) l
theorem qcp {W : World} {base : Nat} {ok1 ok2 : Nat → Prop} {x : S41} {cs : List Value} (h : k41.M W 0 ok1 x cs) : k41.M W base ok2 x cs := by
 obtain rfl := Q9 h
 exact NI _ _ _ _
theorem xX : Flat k41 := qcp
theorem info33 : (Tryz.prog.info? 33).map (fun i => i.size) = some 10 := by kernel_rfl
theorem qe0 : (Tryz.prog.info? 41).map (fun i => i.size) = some 3 := by kernel_rfl
theorem rZ (n : Int) (w : World) : Calls Tryz.prog 54 #[.bool true, .int .i64 n] w fun e w' => e = .returned (.tuple #[]) ∧ w' = w := by
 go_enter Tryz.func54, Tryz.ntmps54
 go_wp2
 go_end0
 exact ⟨rfl, rfl⟩
theorem vH (n : Int) (w : World) : Calls Tryz.prog 54 #[.bool false, .int .i64 n] w fun e w' => e = .panicked [{ v := .iface 34 (.int .i64 n), recovered := false }] ∧ w' = w := by
 go_enter Tryz.func54, Tryz.ntmps54
 go_wp2
 exact ⟨rfl, rfl, rfl⟩
set_option maxHeartbeats 4000000 in
theorem qgc {b w : World} {rs : List Res} (gl : Nat) (A : Option Addr) (c : Nat) (B : Option Addr) (d : Nat) (Q : Qu) (A1 : Option Addr) (c1 : Nat) (L1 : Lg) (H0 : aA (Sep b w (box gl (qc A c B d Q) 101 :: rs))) :
  Calls Tryz.prog 55 #[.pointer (some ⟨gl, 0, none⟩), .agg (lgc A1 c1 L1).toArray, .int .i64 0] w fun e w' => e = .returned (.tuple #[]) ∧ aA (Sep b w' (box gl (qc A1 c1 B d ⟨L1, Q.es, Q.most⟩) 101 :: rs)) := by
 have H : aA (Sep b w (box gl [.slice A Q.L.l.length c, .bool Q.L.dn, .int .i64 Q.L.fu, .int .i64 Q.L.fa, .int .i64 Q.L.size, .int .u64 Q.L.fr, .int .u64 Q.L.nx, .bool Q.L.br, .slice B Q.es.length d, .int .i64 Q.most] 101 :: rs)) := H0
 clear H0
 simp only [lgc]
 have c_l := H.out.cell (g := gl) aH
 have z_l := H.out.frozen (g := gl) aH
 go_enter Tryz.func55, Tryz.ntmps55
 go_wp2_with (first
 |((with_reducible refine aN (N := 4) rfl ?_);
   refine aX rfl H (cs := [.slice A1 L1.l.length c1, .bool L1.dn, .int .i64 L1.fu, .int .i64 L1.fa, .int .i64 L1.size, .int .u64 L1.fr, .int .u64 L1.nx, .bool L1.br]) (t := 30) ?hr ?_;
   (case hr => first | (go_simp; done) | (go_simp; rfl));
   intro gd wd1 n_;
   simp only [Act.put, zA, zZ, zS];
   clear H c_l z_l;
   have H := n_;
   clear n_;
   have c_d := H.out.cell (g := gd) aH;
   have z_d := H.out.frozen (g := gd) aH;
   have c_l := H.out.cell (g := gl) mem1;
   have z_l := H.out.frozen (g := gl) mem1)
 |((with_reducible refine aK (t := 30) (p := 10) rfl ?_);
   refine aV (rs1 := (box gd [.slice A1 L1.l.length c1, .bool L1.dn, .int .i64 L1.fu, .int .i64 L1.fa, .int .i64 L1.size, .int .u64 L1.fr, .int .u64 L1.nx, .bool L1.br] 30 :: box gl [.slice A1 L1.l.length c1, .bool L1.dn, .int .i64 L1.fu, .int .i64 L1.fa, .int .i64 L1.size, .int .u64 L1.fr, .int .u64 L1.nx, .bool L1.br, .slice B Q.es.length d, .int .i64 Q.most] 101 :: rs)) rfl (t := 30) (p := 10) rfl rfl ?hr (H1 := (Sep.set1 (Sep.set1 (Sep.set1 (Sep.set1 (Sep.set1 (Sep.set1 (Sep.set1 (Sep.set1 H.out 0 (.slice A1 L1.l.length c1) rfl) 1 (.bool L1.dn) rfl) 2 (.int .i64 L1.fu) rfl) 3 (.int .i64 L1.fa) rfl) 4 (.int .i64 L1.size) rfl) 5 (.int .u64 L1.fr) rfl) 6 (.int .u64 L1.nx) rfl) 7 (.bool L1.br) rfl)) ?_;
   (case hr => first | (go_simp; done) | (go_simp; rfl));
   intro wd2 n_;
   clear H c_d z_d c_l z_l;
   have H := n_;
   clear n_;
   have c_d := H.out.cell (g := gd) aH;
   have z_d := H.out.frozen (g := gd) aH;
   have c_l := H.out.cell (g := gl) mem1;
   have z_l := H.out.frozen (g := gl) mem1)
 |fail)
 refine (rZ 0 _).mono ?_
 rintro e w_ ⟨rfl, rfl⟩
 go_wp2_with fail
 go_end0
 exact ⟨rfl, ⟨(Sep.dW H.out)⟩⟩
set_option maxHeartbeats 4000000 in
theorem qgd {b w : World} {rs : List Res} (gl : Nat) (A : Option Addr) (c : Nat) (B : Option Addr) (d : Nat) (Q : Qu) (A1 : Option Addr) (c1 : Nat) (L1 : Lg) (n : Int) (hn : n ≠ 0) (H0 : aA (Sep b w (box gl (qc A c B d Q) 101 :: rs))) :
  Calls Tryz.prog 55 #[.pointer (some ⟨gl, 0, none⟩), .agg (lgc A1 c1 L1).toArray, .int .i64 n] w fun e w' => e = .panicked [{ v := .iface 34 (.int .i64 n), recovered := false }] ∧ aA (Sep b w' (box gl (qc A1 c1 B d ⟨L1, Q.es, Q.most⟩) 101 :: rs)) := by
 have H : aA (Sep b w (box gl [.slice A Q.L.l.length c, .bool Q.L.dn, .int .i64 Q.L.fu, .int .i64 Q.L.fa, .int .i64 Q.L.size, .int .u64 Q.L.fr, .int .u64 Q.L.nx, .bool Q.L.br, .slice B Q.es.length d, .int .i64 Q.most] 101 :: rs)) := H0
 clear H0
 simp only [lgc]
 have c_l := H.out.cell (g := gl) aH
 have z_l := H.out.frozen (g := gl) aH
 go_enter Tryz.func55, Tryz.ntmps55
 have hnb : (n == 0) = false := by simpa using hn
 go_wp2_with (first
 |((with_reducible refine aN (N := 4) rfl ?_);
   refine aX rfl H (cs := [.slice A1 L1.l.length c1, .bool L1.dn, .int .i64 L1.fu, .int .i64 L1.fa, .int .i64 L1.size, .int .u64 L1.fr, .int .u64 L1.nx, .bool L1.br]) (t := 30) ?hr ?_;
   (case hr => first | (go_simp; done) | (go_simp; rfl));
   intro gd wd3 n_;
   simp only [Act.put, zA, zZ, zS];
   clear H c_l z_l;
   have H := n_;
   clear n_;
   have c_d := H.out.cell (g := gd) aH;
   have z_d := H.out.frozen (g := gd) aH;
   have c_l := H.out.cell (g := gl) mem1;
   have z_l := H.out.frozen (g := gl) mem1)
 |((with_reducible refine aK (t := 30) (p := 10) rfl ?_);
   refine aV (rs1 := (box gd [.slice A1 L1.l.length c1, .bool L1.dn, .int .i64 L1.fu, .int .i64 L1.fa, .int .i64 L1.size, .int .u64 L1.fr, .int .u64 L1.nx, .bool L1.br] 30 :: box gl [.slice A1 L1.l.length c1, .bool L1.dn, .int .i64 L1.fu, .int .i64 L1.fa, .int .i64 L1.size, .int .u64 L1.fr, .int .u64 L1.nx, .bool L1.br, .slice B Q.es.length d, .int .i64 Q.most] 101 :: rs)) rfl (t := 30) (p := 10) rfl rfl ?hr (H1 := (Sep.set1 (Sep.set1 (Sep.set1 (Sep.set1 (Sep.set1 (Sep.set1 (Sep.set1 (Sep.set1 H.out 0 (.slice A1 L1.l.length c1) rfl) 1 (.bool L1.dn) rfl) 2 (.int .i64 L1.fu) rfl) 3 (.int .i64 L1.fa) rfl) 4 (.int .i64 L1.size) rfl) 5 (.int .u64 L1.fr) rfl) 6 (.int .u64 L1.nx) rfl) 7 (.bool L1.br) rfl)) ?_;
   (case hr => first | (go_simp; done) | (go_simp; rfl));
   intro wd4 n_;
   clear H c_d z_d c_l z_l;
   have H := n_;
   clear n_;
   have c_d := H.out.cell (g := gd) aH;
   have z_d := H.out.frozen (g := gd) aH;
   have c_l := H.out.cell (g := gl) mem1;
   have z_l := H.out.frozen (g := gl) mem1)
 |fail)
 refine (vH n _).mono ?_
 rintro e w_ ⟨rfl, rfl⟩
 exact ⟨rfl, rfl, ⟨(Sep.dW H.out)⟩⟩
theorem log_any {b w : World} {rs : List Res} (gl : Nat) (A : Option Addr) (c : Nat) (B : Option Addr) (d : Nat) (Q : Qu) (A1 : Option Addr) (c1 : Nat) (L1 : Lg) (n : Int) (H0 : aA (Sep b w (box gl (qc A c B d Q) 101 :: rs))) :
  Calls Tryz.prog 55 #[.pointer (some ⟨gl, 0, none⟩), .agg (lgc A1 c1 L1).toArray, .int .i64 n] w fun e w' => Ends n e ∧ aA (Sep b w' (box gl (qc A1 c1 B d ⟨L1, Q.es, Q.most⟩) 101 :: rs)) := by
 by_cases hn : n = 0
 ·subst hn
  exact (qgc gl A c B d Q A1 c1 L1 H0).mono fun e w' h => ⟨.inl ⟨rfl, h.1⟩, h.2⟩
 ·exact (qgd gl A c B d Q A1 c1 L1 n hn H0).mono fun e w' h => ⟨.inr ⟨hn, h.1⟩, h.2⟩
def sW.f (l0 : List (S41)) : Option (List (S41)) := if l0.length < 4398046511104 then some l0 else none
set_option maxHeartbeats 1600000 in
set_option maxRecDepth 100000 in
theorem sW.calls (A0 : Option Addr) (c0 : Nat) (l0 : List (S41)) (r : List (S41)) (w : World) (hr0 : Kd.C k41 w A0 l0.length l0) (hc0 : l0.length ≤ c0) (h : sW.f l0 = some r) :
  Calls Tryz.prog 100 #[.slice A0 l0.length c0] w fun e w' => ∃ v0_ : Value, e = .returned v0_ ∧ Kd.R k41 41 w' w.heap.size (fun _ => True) v0_ r ∧ Below w.heap.size w w' := by
 unfold sW.f at h
 split at h
 case isFalse => cases h
 rename_i hn
 have HE := aA.mk (Option.some.inj h)
 clear h
 have HR := aA.mk hr0
 clear hr0
 have hnil : ∀ (a : Option Addr) (n c : Nat) (w : World), (binOp .eql 31 (.slice a n c) (.slice none 0 0)).run Tryz.prog w = .ok (.bool a.isNone) w := fun a n c w => by
  simp only [binOp]
  simp [Op.equal, Op.maxDepth, Lib.run_equalIn_slice_nil w 9999 31 41 a n c 0 0 Tryz.underlying31]
 cases A0 with
 | none =>
  have hl : l0 = [] := by
   cases l0 with
   | nil => rfl
   | cons x s => obtain ⟨ad, h, _⟩ := HR.out.2.2 (by simp); cases h
  go_enter Tryz.func100, Tryz.ntmps100
  go_wp2
  go_ret
  exact ⟨_, rfl, by rw [← HE.out, hl]; exact Kd.zV _ _ _ _ _, Below.refl _ _⟩
 | some ad =>
  go_enter Tryz.func100, Tryz.ntmps100
  go_wp2_with (first
 |((with_reducible refine aN (N := 5) rfl ?_);
   refine Kd.qfp k41 _ 41 ?hg (N := 5) ?hd (xs := ([] : List (S41))) (inner := []) (ok := fun _ => True) (okp := fun _ => True) ?hr ?hp (fun _ hk => hk) trivial (Below.refl _ _) (Nat.le_refl _) (by simp) ?_;
   (case hd => rfl); (case hg => rfl); (case hr => first | (go_simp; done) | (go_simp; rfl)); (case hp => exact (fH.none _ _));
   intro v5 w5 ho hb hg_ qdd; clear hg_ qdd; have HO := aA.mk ho; have HB := aA.mk hb; clear ho hb)
 |((with_reducible refine iQ (b := .append) (xs := #[.tmp 5, .tmp 6]) rfl ?_); at_builtin;
   refine Kd.uH k41 (w0 := w) w.heap.size rfl (.tmp 5) (.tmp 6) 31 41 (.agg #[(.int .u64 0), (.string ⟨#[]⟩), (.bool false)]) 32 rfl Tryz.underlying31 S9 rfl (by decide) (by omega) v5 [] l0 _ _ _ (fun _ => True) (fun _ => False) rfl rfl ?aO ?aR (fun _ _ h => h) (fun _ h => h.elim) ?aF ?aB ?aS ?aL ?_;
   (case aR => exact Kd.fC HR.out HB.out); (case aB => exact HB.out); (case aF => exact fun _ _ => trivial); (case aO => exact HO.out); (case aS => exact HB.out.size); (case aL => simp only [List.length_nil]; omega);
   intro v7 w9 ho hb hg hat; clear hg hat; have HO2 := aA.mk ho; have HB2 := aA.mk hb; clear ho hb))
  go_ret
  exact ⟨_, rfl, by rw [← HE.out]; exact HO2.out, HB2.out⟩
theorem qdM (A : Option Addr) (c : Nat) (l : List S41) (w : World) (hr : Kd.C k41 w A l.length l) (hc : l.length ≤ c) (hl : l.length ≤ 1024) :
  Calls Tryz.prog 100 #[.slice A l.length c] w fun e w' => ∃ A' c', e = .returned (.slice A' l.length c') ∧ aA (Sep w w' [sV A' c' l]) := by
 refine (sW.calls A c l l w hr hc (by rw [sW.f, if_pos (by omega)])).mono ?_
 rintro e w' ⟨v, rfl, ho, hb⟩
 obtain ⟨A1, c1, rfl⟩ := Kd.dU ho
 exact ⟨A1, c1, rfl, ⟨(Sep.start w).iL hb ho xX⟩⟩
theorem qdN (A : Option Addr) (c : Nat) (l : List S67) (w : World) (hr : Kd.C k67 w A l.length l) (hc : l.length ≤ c) (hl : l.length ≤ 64) :
  Calls Tryz.prog 63 #[.slice A l.length c] w fun e w' => ∃ A' c', e = .returned (.slice A' l.length c') ∧ aA (Sep w w' [oK A' c' l]) := by
 refine (pK.calls A c l l w hr hc (by rw [pK.f, if_pos (by omega)])).mono ?_
 rintro e w' ⟨v, rfl, ho, hb⟩
 obtain ⟨A1, c1, rfl⟩ := Kd.dU ho
 exact ⟨A1, c1, rfl, ⟨(Sep.start w).iL hb ho kN⟩⟩
end Go.Proofs.YtanonhipicoigaaGreatDoor.U
