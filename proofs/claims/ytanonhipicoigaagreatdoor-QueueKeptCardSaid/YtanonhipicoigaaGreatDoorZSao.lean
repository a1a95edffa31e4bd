import Derived.Test.YtanonhipicoigaaGreatDoorZSan
import Derived.Test.YtanonhipicoigaaGreatDoorZSai
import Derived.Test.YtanonhipicoigaaGreatDoorZSak
import Derived.Test.YtanonhipicoigaaGreatDoorZSag
set_option linter.unusedVariables false
set_option linter.unusedSimpArgs false
set_option maxRecDepth 100000
namespace Go.Proofs.U
open Go.RowKit Go.Proofs.YW.PrintWords Go.Proofs.YW.PrintLast Go.Proofs.YW.PrintMore Go.Proofs.Sp Go.Proofs.fG
def eF : Lg → List Pl → Int → Lg × Int × List Pl
 | L, p :: p2 :: r, q => if (p2.2 : Int) ≤ q then
   if (fE L.l L.dn L.fu L.fa p.1.f0).2.2.2.2 = 0 then eF (chg L (fE L.l L.dn L.fu L.fa p.1.f0)) (p2 :: r) q else (chg L (fE L.l L.dn L.fu L.fa p.1.f0), (fE L.l L.dn L.fu L.fa p.1.f0).2.2.2.2, [])
  else (L, 0, p :: p2 :: r)
 | L, [p], q => (L, 0, [p])
 | L, [], q => (L, 0, [])
def yD (L : Lg) (ps : List Pl) : Lg := match ps with | [] => L | p :: _ => { L with fr := (p.2 : Int) }
noncomputable def uQ (L : Lg) (q : Int) : Lg × Int :=
 if L.br = true then (L, 6)
 else if L.nx < q then (L, 2)
 else if (eF L (aK L.l) q).2.1 = 0 then (yD (eF L (aK L.l) q).1 (eF L (aK L.l) q).2.2, 0)
 else ((eF L (aK L.l) q).1, (eF L (aK L.l) q).2.1)
theorem drop_step {L : Lg} {rest : List Pl} {q : Int} {p p2 : Pl} {D : WM} (h0 : rest[0]? = some p) (h1 : rest[1]? = some p2) (hq : (p2.2 : Int) ≤ q) (hD : D = fE L.l L.dn L.fu L.fa p.1.f0) :
  eF L rest q = if D.2.2.2.2 = 0 then eF (chg L D) (rest.drop 1) q else (chg L D, D.2.2.2.2, []) := by
 match rest, h0, h1 with
 | a :: b :: r, h0, h1 =>
  simp only [List.getElem?_cons_zero, List.getElem?_cons_succ, Option.some.injEq] at h0 h1
  subst h0 h1 hD
  rw [eF, if_pos hq]
  rfl
theorem U4 {L : Lg} {rest : List Pl} {q : Int} (h : ¬ 1 < rest.length) : eF L rest q = (L, 0, rest) := by
 match rest, h with
 | [], _ => rfl
 | [p], _ => rfl
 | p :: p2 :: r, h => simp at h
theorem U5 {L : Lg} {rest : List Pl} {q : Int} {p2 : Pl} (h1 : rest[1]? = some p2) (hq : ¬ (p2.2 : Int) ≤ q) : eF L rest q = (L, 0, rest) := by
 match rest, h1 with
 | a :: b :: r, h1 =>
  simp only [List.getElem?_cons_zero, List.getElem?_cons_succ, Option.some.injEq] at h1
  subst h1
  rw [eF, if_neg hq]
set_option maxHeartbeats 8000000 in
theorem qcR (b : World) (gl g0 g1 gv : Nat) (l : List S67) (dn : Bool) (fu fa size fr : Int) (n : Nat) (br : Bool) (q : Int) (A0 : Option Addr) (c0 : Nat) (hok : bF l = true) (hG : Gl b) (hn : n < 18446744073709551616) (hq0 : 0 ≤ q) :
  MZ b gl 84 #[.pointer (some ⟨g0, 0, none⟩), .pointer (some ⟨g1, 0, none⟩), .pointer (some ⟨gv, 0, none⟩)] ⟨l, dn, fu, fa, size, fr, (n : Int), br⟩ [box g0 [.slice A0 l.length c0, .bool dn, .int .i64 fu, .int .i64 fa, .int .i64 size, .int .u64 fr, .int .u64 (n : Int), .bool br] 30, box g1 [.int .u64 q] 28, box gv [.pointer (some ⟨gl, 0, none⟩)] 131] (uQ ⟨l, dn, fu, fa, size, fr, (n : Int), br⟩ q).1 (uQ ⟨l, dn, fu, fa, size, fr, (n : Int), br⟩ q).2 := by
 intro A c w ts H0
 have HOK := aA.mk hok
 have HG := aA.mk hG
 have hlen : l.length ≤ 64 := kK hok
 clear hok hG
 obtain ⟨R, hR⟩ : ∃ R, R = uQ ⟨l, dn, fu, fa, size, fr, (n : Int), br⟩ q := ⟨_, rfl⟩
 rw [← hR]
 have HR := aA.mk hR
 clear hR
 have H : aA (Sep b w (box gl [.slice A l.length c, .bool dn, .int .i64 fu, .int .i64 fa, .int .i64 size, .int .u64 fr, .int .u64 (n : Int), .bool br] 134 :: row k67 67 (.slice A (l).length c) l :: box g0 [.slice A0 l.length c0, .bool dn, .int .i64 fu, .int .i64 fa, .int .i64 size, .int .u64 fr, .int .u64 (n : Int), .bool br] 30 :: box g1 [.int .u64 q] 28 :: box gv [.pointer (some ⟨gl, 0, none⟩)] 131 :: ts)) := H0
 clear H0
 have c_l := H.out.cell (g := gl) aJ
 have c_m := H.out.cell (g := g0) mem2
 have c_t := H.out.cell (g := g1) mem3
 have c_v := H.out.cell (g := gv) bK
 go_enter Tryz.func84, Tryz.ntmps84
 cases br with
 | true =>
  go_wp2_with fail
  refine (DV 6 _).mono ?_
  rintro e w_ ⟨rfl, rfl⟩
  have hV : R = (⟨l, dn, fu, fa, size, fr, (n : Int), true⟩, 6) := by rw [HR.out, uQ, if_pos rfl]
  show _ ∧ _
  rw [hV]
  exact ⟨rfl, .inr ⟨show (6 : Int) ≠ 0 by decide, rfl⟩, A, c, H⟩
 | false =>
  go_wp2_with fail
  refine (yC 6 _).mono ?_
  rintro e w_ ⟨rfl, rfl⟩
  by_cases hx : (n : Int) < q
  ·
   have hq2 : decide (q ≤ (n : Int)) = false := decide_eq_false (by omega)
   go_wp2_with fail
   try simp only [hq2]
   refine (DV 2 _).mono ?_
   rintro e w_ ⟨rfl, rfl⟩
   have hV : R = (⟨l, dn, fu, fa, size, fr, (n : Int), false⟩, 2) := by rw [HR.out, uQ, if_neg (by simp), if_pos hx]
   show _ ∧ _
   rw [hV]
   exact ⟨rfl, .inr ⟨show (2 : Int) ≠ 0 by decide, rfl⟩, A, c, H⟩
  ·
   have hq2 : decide (q ≤ (n : Int)) = true := decide_eq_true (by omega)
   go_wp2_with fail
   try simp only [hq2]
   refine (yC 2 _).mono ?_
   rintro e w_ ⟨rfl, rfl⟩
   obtain ⟨ps, hps⟩ : ∃ ps, ps = aK l := ⟨_, rfl⟩
   have hRV : R = (if (eF ⟨l, dn, fu, fa, size, fr, (n : Int), false⟩ ps q).2.1 = 0 then (yD (eF ⟨l, dn, fu, fa, size, fr, (n : Int), false⟩ ps q).1 (eF ⟨l, dn, fu, fa, size, fr, (n : Int), false⟩ ps q).2.2, 0) else ((eF ⟨l, dn, fu, fa, size, fr, (n : Int), false⟩ ps q).1, (eF ⟨l, dn, fu, fa, size, fr, (n : Int), false⟩ ps q).2.1)) := by
    rw [HR.out, uQ, if_neg (by simp), if_neg (by show ¬ ((n : Int) < q); omega), hps]
   have HRV := aA.mk hRV
   have PA := aA.mk (fun A c w hr hc hG => places_any A c l dn fu fa w hr hc hlen (FD HOK.out) hG)
   rw [← hps] at PA
   have hpl : ps.length ≤ 64 := by
    have := oZ l
    rw [← hps] at this
    omega
   have HPB : aA (∀ p ∈ ps, p.2 ≤ most) := ⟨fun p hp => (pJ HOK.out hps hp).2.1⟩
   clear hps HR hRV hq2
   go_wp2_with fail
   refine ((PA.out A c _ (H.out.reads mem1).2.2 (H.out.reads mem1).2.1 (HG.out.below H.out.below)).mono ?_)
   rintro e wd1 ⟨v_, rfl, ho_, hb_⟩
   obtain ⟨Aq, cq, eo_⟩ := Kd.dQ ho_
   subst eo_
   have n_ : aA (Sep b wd1 (row dY 139 (.slice Aq (ps).length cq) ps :: box gl [.slice A l.length c, .bool dn, .int .i64 fu, .int .i64 fa, .int .i64 size, .int .u64 fr, .int .u64 (n : Int), .bool false] 134 :: row k67 67 (.slice A (l).length c) l :: box g0 [.slice A0 l.length c0, .bool dn, .int .i64 fu, .int .i64 fa, .int .i64 size, .int .u64 fr, .int .u64 (n : Int), .bool false] 30 :: box g1 [.int .u64 q] 28 :: box gv [.pointer (some ⟨gl, 0, none⟩)] 131 :: ts)) := ⟨Sep.iY H.out hb_ ho_ vI⟩
   clear H c_l c_m c_t c_v
   have H := n_
   clear n_
   have c_l := H.out.cell (g := gl) mem1
   have c_m := H.out.cell (g := g0) mem3
   have c_t := H.out.cell (g := g1) bK
   have c_v := H.out.cell (g := gv) dJ
   clear ho_ hb_
   go_wp2_with fail
   go_loopw [3] (fun v3 wr => ∃ (L : Lg) (rest : List Pl) (A5 : Option Addr) (c5 : Nat) (A4 : Option Addr) (c4 : Nat), v3 = .slice A5 rest.length c5 ∧ rest.length ≤ c5 ∧ rest.length ≤ 64 ∧ aA (∀ p ∈ rest, p.2 ≤ most) ∧ aA (∀ W, Kd.C dY W Aq ps.length ps → Kd.C dY W A5 rest.length rest) ∧ aA (eF ⟨l, dn, fu, fa, size, fr, (n : Int), false⟩ ps q = eF L rest q) ∧ aA (Sep b wr (row dY 139 (.slice Aq (ps).length cq) ps :: box gl [.slice A4 L.l.length c4, .bool L.dn, .int .i64 L.fu, .int .i64 L.fa, .int .i64 L.size, .int .u64 L.fr, .int .u64 L.nx, .bool L.br] 134 :: row k67 67 (.slice A4 (L.l).length c4) L.l :: box g0 [.slice A0 l.length c0, .bool dn, .int .i64 fu, .int .i64 fa, .int .i64 size, .int .u64 fr, .int .u64 (n : Int), .bool false] 30 :: box g1 [.int .u64 q] 28 :: box gv [.pointer (some ⟨gl, 0, none⟩)] 131 :: ts)))
    (fun v3 _ => match v3 with | .slice _ k _ => k | _ => 0)
   case atStart => exact ⟨⟨l, dn, fu, fa, size, fr, (n : Int), false⟩, ps, Aq, cq, A, c, rfl, (H.out.reads aJ).2.1, hpl, HPB, ⟨fun W h => h⟩, ⟨rfl⟩, H⟩
   case round =>
    clear H c_l c_m c_t c_v
    obtain ⟨L, rest, A5, c5, A4, c4, rfl, hc5, hrl, qfg, HC5, HDA, H⟩ := hrel
    have c_l := H.out.cell (g := gl) mem1
    have c_m := H.out.cell (g := g0) mem3
    have c_t := H.out.cell (g := g1) bK
    have c_v := H.out.cell (g := gv) dJ
    by_cases hl1 : 1 < rest.length
    ·
     obtain ⟨p, hp⟩ : ∃ p, rest[0]? = some p := ⟨_, List.getElem?_eq_getElem (by omega)⟩
     obtain ⟨a5, e1⟩ := EZ (HC5.out _ (H.out.reads (A := Aq) aJ).2.2) (by omega)
     subst e1
     obtain ⟨h0, h1, h2, h3⟩ := tZ (HC5.out _ (H.out.reads (A := Aq) aJ).2.2) hp
     have ea : a5.add 0 = a5 := by simp [Addr.add]
     simp only [Nat.zero_mul, ea] at h0 h1 h2 h3
     have HP0 := aA.mk hp
     clear ea
     obtain ⟨p2, hp2⟩ : ∃ p2, rest[1]? = some p2 := ⟨_, List.getElem?_eq_getElem (by omega)⟩
     obtain ⟨k0, k1, k2, k3⟩ := tZ (HC5.out _ (H.out.reads (A := Aq) aJ).2.2) hp2
     simp only [Nat.one_mul] at k0 k1 k2 k3
     have k4 : wr.cell? ⟨a5.block, a5.off + 4 + 3, none⟩ = some (.int .u64 (p2.2 : Int)) := k3
     have HP2 := aA.mk hp2
     have qja : p2.2 ≤ 4611686018427387904 := qfg.out p2 (List.mem_of_getElem? hp2)
     have q1 : decide ((1 : Int) < (rest.length : Int)) = true := decide_eq_true (by omega)
     have q5 : (1 : Int) < (rest.length : Int) := by omega
     clear hp hp2 k0 k1 k2 k3
     by_cases hq2 : (p2.2 : Int) ≤ q
     ·
      obtain ⟨D, hD⟩ : ∃ D, D = fE L.l L.dn L.fu L.fa p.1.f0 := ⟨_, rfl⟩
      have HDS := aA.mk (drop_step HP0.out HP2.out hq2 hD)
      have HD := aA.mk hD
      clear hD
      have q2 := decide_eq_true hq2
      go_upto_region 3 with fail
      go_quiet (fail)
      clear h0 h1 h2 h3 k4
      have hl00 : 0 < rest.length := by omega
      go_upto_region 4 with fail
      refine JM (rs := (row dY 139 (.slice Aq (ps).length cq) ps :: box gl [.slice A4 L.l.length c4, .bool L.dn, .int .i64 L.fu, .int .i64 L.fa, .int .i64 L.size, .int .u64 L.fr, .int .u64 L.nx, .bool L.br] 134 :: row k67 67 (.slice A4 (L.l).length c4) L.l :: box g0 [.slice A0 l.length c0, .bool dn, .int .i64 fu, .int .i64 fa, .int .i64 size, .int .u64 fr, .int .u64 (n : Int), .bool false] 30 :: box g1 [.int .u64 q] 28 :: box gv [.pointer (some ⟨gl, 0, none⟩)] 131 :: ts)) (Sep.drewN H.out _) ?_
      intro wd2 n_
      clear H c_l c_m c_t c_v
      have H := n_
      clear n_
      have c_l := H.out.cell (g := gl) mem1
      have c_m := H.out.cell (g := g0) mem3
      have c_t := H.out.cell (g := g1) bK
      have c_v := H.out.cell (g := gv) dJ
      refine gX (n := 15) (S := fun w' => (∀ j : Nat, w'.cell? ⟨gv, j, none⟩ = [.pointer (some ⟨gl, 0, none⟩)][j]?) ∧ (∀ j : Nat, w'.cell? ⟨gl, j, none⟩ = [.slice A4 L.l.length c4, .bool L.dn, .int .i64 L.fu, .int .i64 L.fa, .int .i64 L.size, .int .u64 L.fr, .int .u64 L.nx, .bool L.br][j]?) ∧ w'.cell? a5 = some (.string p.1.f0) ∧ Sp.Sep b w' (row dY 139 (.slice Aq (ps).length cq) ps :: box gl [.slice A4 L.l.length c4, .bool L.dn, .int .i64 L.fu, .int .i64 L.fa, .int .i64 L.size, .int .u64 L.fr, .int .u64 L.nx, .bool L.br] 134 :: row k67 67 (.slice A4 (L.l).length c4) L.l :: box g0 [.slice A0 l.length c0, .bool dn, .int .i64 fu, .int .i64 fa, .int .i64 size, .int .u64 fr, .int .u64 (n : Int), .bool false] 30 :: box g1 [.int .u64 q] 28 :: box gv [.pointer (some ⟨gl, 0, none⟩)] 131 :: ts)) (ds := [14]) #[false, false, false, false, false, false, false, false, false, false, false, false, false, false, false] (by kernel_rfl) rfl rfl ⟨(fun j => ((Sep.drew H.out)).cell (g := gv) dJ j), (fun j => ((Sep.drew H.out)).cell (g := gl) mem1 j), (by have h := (tZ (HC5.out _ (Sep.reads (A := Aq) (Sep.drew H.out) aJ).2.2) HP0.out).1; rwa [show a5.add (0 * 4) = a5 by simp [Addr.add]] at h), (Sep.drew H.out)⟩ (fun hHeld => ?_)
      refine puS (i := 6) (N := some 36) (v := ?_) (a' := ?_) rfl rfl (by kernel_rfl) (fun _ _ _ h => h) (Or.inl ⟨by rfl, ?_⟩) ?_ ?_
      rotate_left
      ·intro w'
       go_simp
       with_reducible rfl
      rotate_left
      ·simp only [Act.put, zA, zZ, zS, aH, aI]
       rfl
      refine puS (i := 7) (N := some 37) (v := ?_) (a' := ?_) rfl rfl (by kernel_rfl) (fun _ _ _ h => h) (Or.inl ⟨by rfl, ?_⟩) ?_ ?_
      rotate_left
      ·intro w'
       go_simp
       with_reducible rfl
      rotate_left
      ·simp only [Act.put, zA, zZ, zS, aH, aI]
       rfl
      refine puS (i := 8) (N := some 38) (v := ?_) (a' := ?_) rfl rfl (by kernel_rfl) (fun _ _ _ h => h) (Or.inl ⟨by rfl, ?_⟩) ?_ ?_
      rotate_left
      ·intro w'
       go_simp
       with_reducible rfl
      rotate_left
      ·simp only [Act.put, zA, zZ, zS, aH, aI]
       rfl
      refine puS (i := 9) (N := some 39) (v := ?_) (a' := ?_) rfl rfl (by kernel_rfl) (fun _ _ _ h => h) (Or.inl ⟨by rfl, ?_⟩) ?_ ?_
      rotate_left
      ·intro w'
       go_simp
       with_reducible rfl
      rotate_left
      ·simp only [Act.put, zA, zZ, zS, aH, aI]
       rfl
      refine tkS (i := 0) (N := some 30) (v := ?_) (a' := ?_) rfl rfl (by kernel_rfl) (fun _ _ _ h => h) (Or.inl ⟨by rfl, ?_⟩) hHeld ?_ ?_
      rotate_left
      ·rintro w' ⟨s0, s1, s2, s3⟩
       go_simp
       with_reducible rfl
      rotate_left
      ·simp only [Act.put, zA, zZ, zS, aH, aI]
       rfl
      refine tkS (i := 1) (N := some 31) (v := ?_) (a' := ?_) rfl rfl (by kernel_rfl) (fun _ _ _ h => h) (Or.inl ⟨by rfl, ?_⟩) hHeld ?_ ?_
      rotate_left
      ·rintro w' ⟨s0, s1, s2, s3⟩
       go_simp
       with_reducible rfl
      rotate_left
      ·simp only [Act.put, zA, zZ, zS, aH, aI]
       rfl
      refine puS (i := 2) (N := some 32) (v := ?_) (a' := ?_) rfl rfl (by kernel_rfl) (fun _ _ _ h => h) (Or.inl ⟨by rfl, ?_⟩) ?_ ?_
      rotate_left
      ·intro w'
       go_simp
       with_reducible rfl
      rotate_left
      ·simp only [Act.put, zA, zZ, zS, aH, aI]
       rfl
      refine puS (i := 3) (N := some 33) (v := ?_) (a' := ?_) rfl rfl (by kernel_rfl) (fun _ _ _ h => h) (Or.inl ⟨by rfl, ?_⟩) ?_ ?_
      rotate_left
      ·intro w'
       go_simp
       with_reducible rfl
      rotate_left
      ·simp only [Act.put, zA, zZ, zS, aH, aI]
       rfl
      refine puS (i := 4) (N := some 34) (v := ?_) (a' := ?_) rfl rfl (by kernel_rfl) (fun _ _ _ h => h) (Or.inl ⟨by rfl, ?_⟩) ?_ ?_
      rotate_left
      ·intro w'
       go_simp
       with_reducible rfl
      rotate_left
      ·simp only [Act.put, zA, zZ, zS, aH, aI]
       rfl
      refine tkS (i := 5) (N := some 35) (v := ?_) (a' := ?_) rfl rfl (by kernel_rfl) (fun _ _ _ h => h) (Or.inl ⟨by rfl, ?_⟩) hHeld ?_ ?_
      rotate_left
      ·rintro w' ⟨s0, s1, s2, s3⟩
       go_simp
       with_reducible rfl
      rotate_left
      ·simp only [Act.put, zA, zZ, zS, aH, aI]
       rfl
      refine tkS (i := 10) (N := some 40) (v := ?_) (a' := ?_) rfl rfl (by kernel_rfl) (fun _ _ _ h => h) (Or.inl ⟨by rfl, ?_⟩) hHeld ?_ ?_
      rotate_left
      ·rintro w' ⟨s0, s1, s2, s3⟩
       go_simp
       with_reducible rfl
      rotate_left
      ·simp only [Act.put, zA, zZ, zS, aH, aI]
       rfl
      refine onS (i := 11) (N := some 41) rfl rfl (by kernel_rfl) (by decide) (fun K hK => ?_)
      refine qP Tryz.func73 (by kernel_rfl) rfl #[.agg #[.slice A4 L.l.length c4, .bool L.dn, .int .i64 L.fu, .int .i64 L.fa], .string p.1.f0] (by rfl) rfl rfl (by simp only [List.map_toArray, List.map_cons, List.map_nil]; rfl) ?_
      with_reducible refine (o9.calls A4 c4 L.l L.dn L.fu L.fa p.1.f0 D.1 D.2.1 D.2.2.1 D.2.2.2.1 D.2.2.2.2 _ (Sep.reads hHeld.2.2.2 mem2).2.2 (Sep.reads hHeld.2.2.2 mem2).2.1 (by rw [xQ, ← HD.out])).mono ?_
      rintro e w5 ⟨v_, rfl, ho_, uP⟩
      obtain ⟨A6, c6, eo_⟩ := Kd.dQ ho_
      subst eo_
      have HN3 := aA.mk (Sep.iY hHeld.2.2.2 uP ho_ lJ)
      refine ⟨_, rfl, ?_⟩
      refine hK.out _ _ ⟨(fun j => ((Sep.step hHeld.2.2.2 uP)).cell (g := gv) dJ j), (fun j => ((Sep.step hHeld.2.2.2 uP)).cell (g := gl) mem1 j), (by have h := (tZ (HC5.out _ (Sep.reads (A := Aq) (Sep.step hHeld.2.2.2 uP) aJ).2.2) HP0.out).1; rwa [show a5.add (0 * 4) = a5 by simp [Addr.add]] at h), (Sep.step hHeld.2.2.2 uP)⟩ (fun hHeld => ?_)
      clear hK K
      refine fU (a' := ?_) ?_ ?_
      rotate_left
      ·show Act.put _ (some 41) _ = _
       simp only [Act.put, zA, zZ, zS, aH, aI]
       rfl
      refine puS (i := 12) (N := some 42) (v := ?_) (a' := ?_) rfl rfl (by kernel_rfl) (fun _ _ _ h => h) (Or.inl ⟨by rfl, ?_⟩) ?_ ?_
      rotate_left
      ·intro w'
       go_simp
       with_reducible rfl
      rotate_left
      ·simp only [Act.put, zA, zZ, zS, aH, aI]
       rfl
      refine puS (i := 13) (N := some 43) (v := ?_) (a' := ?_) rfl rfl (by kernel_rfl) (fun _ _ _ h => h) (Or.inl ⟨by rfl, ?_⟩) ?_ ?_
      rotate_left
      ·intro w'
       go_simp
       with_reducible rfl
      rotate_left
      ·simp only [Act.put, zA, zZ, zS, aH, aI]
       rfl
      refine laS (i := 14) (N := some 44) rfl rfl (by kernel_rfl) (by decide) (fun K hK => ?_)
      refine tH Tryz.func72 (by kernel_rfl) rfl #[.pointer (some ⟨gl, 0, none⟩), .agg #[.slice A6 D.1.length c6, .bool D.2.1, .int .i64 D.2.2.1, .int .i64 D.2.2.2.1], .int .i64 D.2.2.2.2] (by rfl) rfl rfl (by simp only [List.map_toArray, List.map_cons, List.map_nil]; rfl) ?_
      refine (qF gl A4 c4 L A6 c6 D (rs := oJ A6 c6 D.1 :: (row dY 139 (.slice Aq (ps).length cq) ps :: row k67 67 (.slice A4 (L.l).length c4) L.l :: box g0 [.slice A0 l.length c0, .bool dn, .int .i64 fu, .int .i64 fa, .int .i64 size, .int .u64 fr, .int .u64 (n : Int), .bool false] 30 :: box g1 [.int .u64 q] 28 :: box gv [.pointer (some ⟨gl, 0, none⟩)] 131 :: ts)) ⟨HN3.out.iQ⟩).mono ?_
      rintro e w6 ⟨hE, H4⟩
      rcases hE with ⟨hz, rfl⟩ | ⟨hnz, rfl⟩
      rotate_left
      ·refine .inr ⟨_, rfl, ?_⟩
       have hV : R = (chg L D, D.2.2.2.2) := by rw [HRV.out, HDA.out, HDS.out, if_neg hnz, if_neg hnz]
       show _ ∧ _
       rw [hV]
       exact ⟨rfl, .inr ⟨hnz, rfl⟩, A6, c6, ⟨(Sep.drop2 (Sep.gK H4.out))⟩⟩
      refine .inl ⟨_, rfl, ?_⟩
      refine hK.out _ _ ?_
      clear hK K
      refine fU (a' := ?_) ?_ ?_
      rotate_left
      ·show Act.put _ (some 44) _ = _
       simp only [Act.put, zA, zZ, zS, aH, aI]
       rfl
      refine jM (by kernel_rfl) ?_
      have hc6 : (rest.length : Int) ≤ (c5 : Int) := by omega
      have hln : (rest.drop 1).length = rest.length - 1 := List.length_drop
      go_wp2
      refine ⟨⟨chg L D, rest.drop 1, some (a5.add (1 * 4)), c5 - 1, A6, c6, ?_, by omega, by omega, ⟨fun p hp => qfg.out p (List.mem_of_mem_drop hp)⟩, ⟨fun W h => ?_⟩, ⟨?_⟩, ⟨(Sep.oV (Sep.gI (Sep.gI (Sep.oV (Sep.oV (Sep.oV (Sep.gK H4.out)))))))⟩⟩, ?_⟩
      ·rw [hln]
       rfl
      ·rw [hln]
       exact yR (HC5.out W h) (by omega)
      ·rw [HDA.out, HDS.out, if_pos hz]
      ·show rest.length - 1 < rest.length
       omega
     ·
      have q2 := decide_eq_false hq2
      have HV : aA (R = (yD L rest, 0)) := ⟨by rw [HRV.out, HDA.out, U5 HP2.out hq2, if_pos rfl]⟩
      have q6 : (0 : Int) < (rest.length : Int) := by omega
      go_upto_region 3 with fail
      go_quiet (fail)
      clear h0 h1 h2 h3 k4
      go_upto_region 7 with fail
      refine JM (rs := (row dY 139 (.slice Aq (ps).length cq) ps :: box gl [.slice A4 L.l.length c4, .bool L.dn, .int .i64 L.fu, .int .i64 L.fa, .int .i64 L.size, .int .u64 L.fr, .int .u64 L.nx, .bool L.br] 134 :: row k67 67 (.slice A4 (L.l).length c4) L.l :: box g0 [.slice A0 l.length c0, .bool dn, .int .i64 fu, .int .i64 fa, .int .i64 size, .int .u64 fr, .int .u64 (n : Int), .bool false] 30 :: box g1 [.int .u64 q] 28 :: box gv [.pointer (some ⟨gl, 0, none⟩)] 131 :: ts)) (Sep.drewN H.out _) ?_
      intro wd3 n_
      clear H c_l c_m c_t c_v
      have H := n_
      clear n_
      have c_l := H.out.cell (g := gl) mem1
      have c_m := H.out.cell (g := g0) mem3
      have c_t := H.out.cell (g := g1) bK
      have c_v := H.out.cell (g := gv) dJ
      clear c_l c_m c_t c_v
      have c_l := H.out.cell (g := gl) mem1
      have z_l := H.out.frozen (g := gl) mem1
      have c_m := H.out.cell (g := g0) mem3
      have c_t := H.out.cell (g := g1) bK
      have c_v := H.out.cell (g := gv) dJ
      have h9 : wd3.cell? ⟨a5.block, a5.off + 3, none⟩ = some (.int .u64 (p.2 : Int)) := by
       have h := (tZ (HC5.out _ (H.out.reads (A := Aq) aJ).2.2) HP0.out).2.2.2
       rwa [show a5.add (0 * 4) = a5 by simp [Addr.add]] at h
      have hl00 : 0 < rest.length := by omega
      go_region
      clear h9
      refine qQ (rs := (row dY 139 (.slice Aq (ps).length cq) ps :: box gl [.slice A4 L.l.length c4, .bool L.dn, .int .i64 L.fu, .int .i64 L.fa, .int .i64 L.size, .int .u64 (p.2 : Int), .int .u64 L.nx, .bool L.br] 134 :: row k67 67 (.slice A4 (L.l).length c4) L.l :: box g0 [.slice A0 l.length c0, .bool dn, .int .i64 fu, .int .i64 fa, .int .i64 size, .int .u64 fr, .int .u64 (n : Int), .bool false] 30 :: box g1 [.int .u64 q] 28 :: box gv [.pointer (some ⟨gl, 0, none⟩)] 131 :: ts)) (Sep.drew (Sep.set1 H.out 5 (.int .u64 (p.2 : Int)) rfl)) ?_
      intro wd4 n_
      clear H c_l z_l c_m c_t c_v
      have H := n_
      clear n_
      have c_l := H.out.cell (g := gl) mem1
      have z_l := H.out.frozen (g := gl) mem1
      have c_m := H.out.cell (g := g0) mem3
      have c_t := H.out.cell (g := g1) bK
      have c_v := H.out.cell (g := gv) dJ
      go_wp2_with fail
      go_end0
      have hfr : yD L rest = { L with fr := (p.2 : Int) } := by
       cases rest with
       | nil => cases HP0.out
       | cons a r => have := HP0.out; simp only [List.getElem?_cons_zero, Option.some.injEq] at this; subst this; rfl
      rw [HV.out, hfr]
      exact ⟨.inl ⟨rfl, rfl⟩, A4, c4, ⟨(Sep.dV H.out)⟩⟩
    ·
     have q1 : decide ((1 : Int) < (rest.length : Int)) = false := decide_eq_false (by omega)
     have HV : aA (R = (yD L rest, 0)) := ⟨by rw [HRV.out, HDA.out, U4 hl1, if_pos rfl]⟩
     by_cases hl0 : 0 < rest.length
     ·
      obtain ⟨p, hp⟩ : ∃ p, rest[0]? = some p := ⟨_, List.getElem?_eq_getElem (by omega)⟩
      obtain ⟨a5, e1⟩ := EZ (HC5.out _ (H.out.reads (A := Aq) aJ).2.2) (by omega)
      subst e1
      obtain ⟨h0, h1, h2, h3⟩ := tZ (HC5.out _ (H.out.reads (A := Aq) aJ).2.2) hp
      have ea : a5.add 0 = a5 := by simp [Addr.add]
      simp only [Nat.zero_mul, ea] at h0 h1 h2 h3
      have HP0 := aA.mk hp
      clear ea
      clear hp
      have q5 : (0 : Int) < (rest.length : Int) := by omega
      go_upto_region 3 with fail
      go_quiet (fail)
      clear h0 h1 h2 h3
      go_upto_region 7 with fail
      refine JM (rs := (row dY 139 (.slice Aq (ps).length cq) ps :: box gl [.slice A4 L.l.length c4, .bool L.dn, .int .i64 L.fu, .int .i64 L.fa, .int .i64 L.size, .int .u64 L.fr, .int .u64 L.nx, .bool L.br] 134 :: row k67 67 (.slice A4 (L.l).length c4) L.l :: box g0 [.slice A0 l.length c0, .bool dn, .int .i64 fu, .int .i64 fa, .int .i64 size, .int .u64 fr, .int .u64 (n : Int), .bool false] 30 :: box g1 [.int .u64 q] 28 :: box gv [.pointer (some ⟨gl, 0, none⟩)] 131 :: ts)) (Sep.drewN H.out _) ?_
      intro wd5 n_
      clear H c_l c_m c_t c_v
      have H := n_
      clear n_
      have c_l := H.out.cell (g := gl) mem1
      have c_m := H.out.cell (g := g0) mem3
      have c_t := H.out.cell (g := g1) bK
      have c_v := H.out.cell (g := gv) dJ
      clear c_l c_m c_t c_v
      have c_l := H.out.cell (g := gl) mem1
      have z_l := H.out.frozen (g := gl) mem1
      have c_m := H.out.cell (g := g0) mem3
      have c_t := H.out.cell (g := g1) bK
      have c_v := H.out.cell (g := gv) dJ
      have h9 : wd5.cell? ⟨a5.block, a5.off + 3, none⟩ = some (.int .u64 (p.2 : Int)) := by
       have h := (tZ (HC5.out _ (H.out.reads (A := Aq) aJ).2.2) HP0.out).2.2.2
       rwa [show a5.add (0 * 4) = a5 by simp [Addr.add]] at h
      have hl00 : 0 < rest.length := by omega
      go_region
      clear h9
      refine qQ (rs := (row dY 139 (.slice Aq (ps).length cq) ps :: box gl [.slice A4 L.l.length c4, .bool L.dn, .int .i64 L.fu, .int .i64 L.fa, .int .i64 L.size, .int .u64 (p.2 : Int), .int .u64 L.nx, .bool L.br] 134 :: row k67 67 (.slice A4 (L.l).length c4) L.l :: box g0 [.slice A0 l.length c0, .bool dn, .int .i64 fu, .int .i64 fa, .int .i64 size, .int .u64 fr, .int .u64 (n : Int), .bool false] 30 :: box g1 [.int .u64 q] 28 :: box gv [.pointer (some ⟨gl, 0, none⟩)] 131 :: ts)) (Sep.drew (Sep.set1 H.out 5 (.int .u64 (p.2 : Int)) rfl)) ?_
      intro wd6 n_
      clear H c_l z_l c_m c_t c_v
      have H := n_
      clear n_
      have c_l := H.out.cell (g := gl) mem1
      have z_l := H.out.frozen (g := gl) mem1
      have c_m := H.out.cell (g := g0) mem3
      have c_t := H.out.cell (g := g1) bK
      have c_v := H.out.cell (g := gv) dJ
      go_wp2_with fail
      go_end0
      have hfr : yD L rest = { L with fr := (p.2 : Int) } := by
       cases rest with
       | nil => cases HP0.out
       | cons a r => have := HP0.out; simp only [List.getElem?_cons_zero, Option.some.injEq] at this; subst this; rfl
      rw [HV.out, hfr]
      exact ⟨.inl ⟨rfl, rfl⟩, A4, c4, ⟨(Sep.dV H.out)⟩⟩
     ·
      have hre : rest = [] := List.length_eq_zero_iff.1 (by omega)
      have HRE : aA (yD L rest = L) := ⟨by rw [hre]; rfl⟩
      have q5 : ¬ (0 : Int) < (rest.length : Int) := by omega
      clear hre
      go_upto_region 3 with fail
      go_quiet (fail)
      go_wp2_with fail
      go_end0
      rw [HV.out, HRE.out]
      exact ⟨.inl ⟨rfl, rfl⟩, A4, c4, ⟨(Sep.dV (Sep.drewN H.out _))⟩⟩
end Go.Proofs.U
namespace Go.Proofs.U
open Go.RowKit Go.Proofs.YW.PrintWords Go.Proofs.YW.PrintLast Go.Proofs.YW.PrintMore
attribute [local go_sem] iE iF jG jH gQ gU iJ iK
def fP.f (aW : List (S67)) (bV : Bool) (bW : Int) (bY : Int) (eX : Int) (fA : Int) (eH : Int) (fK : Bool) : Option (Int) := (dK.f aW bV bW bY).bind fun zD => (if zD = 0 then (if eX < 1 then (some 6) else (if eX > 262144 then (some 6) else (if fA > eH then (some 6) else (if eH > 4611686018427387904 then (some 6) else (some 0))))) else (some 6))
set_option maxHeartbeats 8000000 in
theorem fP.calls (dO : Option Addr) (dP : Nat) (aW : List (S67)) (bV : Bool) (bW : Int) (bY : Int) (eX : Int) (fA : Int) (eH : Int) (fK : Bool) (r : Int) (w : World) (jP : Kd.C k67 w dO aW.length aW) (lI : aW.length ≤ dP) (h : fP.f aW bV bW bY eX fA eH fK = some r) :
    Calls Tryz.prog 33 #[.agg #[.slice dO aW.length dP, .bool bV, .int .i64 bW, .int .i64 bY, .int .i64 eX, .int .u64 fA, .int .u64 eH, .bool fK]] w fun e w' => e = .returned (.int .i64 r) ∧ Below w.heap.size w w' := by
  have qh0 := Tryz.underlying30
  have qh1 := Tryz.underlying27
  have zJ := aA.mk jP
  have zK := aA.mk lI
  clear jP lI
  have HB := aA.mk (Below.refl w.heap.size w)
  have H : ((dK.f aW bV bW bY).bind fun zD => (if zD = 0 then (if eX < 1 then (some 6) else (if eX > 262144 then (some 6) else (if fA > eH then (some 6) else (if eH > 4611686018427387904 then (some 6) else (some 0))))) else (some 6))) = some r := h
  clear h
  replace H := Option.bind_eq_some_iff.mp H
  obtain ⟨zD, A20, H⟩ := H
  replace H : (if zD = 0 then (if eX < 1 then (some 6) else (if eX > 262144 then (some 6) else (if fA > eH then (some 6) else (if eH > 4611686018427387904 then (some 6) else (some 0))))) else (some 6)) = some r := H
  have A2 := aA.mk A20
  clear A20
  by_cases c3 : zD = 0
  · rw [if_pos c3] at H
    have IV : (zD == 0) = true := beq_iff_eq.mpr c3
    have SX : (zD != 0) = false := bne_eq_false_iff_eq.mpr c3
    clear c3
    by_cases c4 : eX < 1
    · rw [if_pos c4] at H
      have qal : decide (eX < 1) = true := decide_eq_true c4
      clear c4
      obtain rfl := Option.some.inj H
      go_enter Tryz.func33, Tryz.ntmps33
      go_wp2_with (first | ((with_reducible refine aP (N := 1) rfl ?_); refine dI ?hg (N := 1) ?hd (cs := #[.slice dO aW.length dP, .bool bV, .int .i64 bW, .int .i64 bY, .int .i64 eX, .int .u64 fA, .int .u64 eH, .bool fK]) (t := 30) ?hr ?_; (case hd => rfl); (case hg => rfl); (case hr => first | (go_simp; done) | (go_simp; rfl)); intro bP hg w5 hbox hb; have n0_ := aA.mk (aX (by repeat (first | (with_reducible first | exact HB.out | apply aQ | apply aT | apply aV) | exact HB.out)) hb); have n1_ := aA.mk (hbox); have n2_ := aA.mk ((by rw [hg]; exact (dW (by repeat (first | (with_reducible first | exact HB.out | apply aQ | apply aT | apply aV) | exact HB.out))) : w.heap.size ≤ bP)); have n3_ := aA.mk ((by rw [hg]; exact (dW (by repeat (first | (with_reducible first | exact HB.out | apply aQ | apply aT | apply aV) | exact HB.out))) : w.heap.size ≤ bP)); clear HB; have HB := n0_; have aU := n1_; have SY := n2_; have rC := n3_; clear n0_ n1_ n2_ n3_; clear hb hbox hg; have qh2 : w5.cell? ⟨bP, 0, none⟩ = some (.slice dO aW.length dP) := (aG aU.out 0).trans rfl; have qh3 : w5.cell? ⟨bP, 1, none⟩ = some (.bool bV) := (aG aU.out 1).trans rfl; have qh4 : w5.cell? ⟨bP, 2, none⟩ = some (.int .i64 bW) := (aG aU.out 2).trans rfl; have qh5 : w5.cell? ⟨bP, 3, none⟩ = some (.int .i64 bY) := (aG aU.out 3).trans rfl; have qh6 : w5.cell? ⟨bP, 4, none⟩ = some (.int .i64 eX) := (aG aU.out 4).trans rfl; have qh7 : w5.cell? ⟨bP, 5, none⟩ = some (.int .u64 fA) := (aG aU.out 5).trans rfl; have qh8 : w5.cell? ⟨bP, 6, none⟩ = some (.int .u64 eH) := (aG aU.out 6).trans rfl; have qh9 : w5.cell? ⟨bP, 7, none⟩ = some (.bool fK) := (aG aU.out 7).trans rfl; have qia := aC aU.out 0; have qib := aC aU.out 1; have qic := aC aU.out 2; have qid := aC aU.out 3; have qie := aC aU.out 4; have qif := aC aU.out 5; have qig := aC aU.out 6; have qih := aC aU.out 7) | ((with_reducible refine jT (f := 50) rfl ?_); refine vX (some 5) rfl rfl Tryz.func50 (by kernel_rfl) rfl #[.agg #[.slice dO aW.length dP, .bool bV, .int .i64 bW, .int .i64 bY]] rfl (by (try simp only [List.map_toArray, List.map_cons, List.map_nil]); first | done | rfl | (simp only [List.length_drop, List.length_take]; rfl)) ?_; (with_reducible refine (dK.calls _ _ aW bV bW bY zD _ ?rD ?rE A2.out).mono ?_); (case rD => repeat (first | exact (Kd.fC zJ.out HB.out) | (with_reducible refine Kd.rY ?_ _) | (with_reducible refine Kd.rZ ?_ _) | (with_reducible refine Kd.vW ?_))); (case rE => exact zK.out); rintro e w7 ⟨rfl, hb⟩; refine ⟨_, rfl, ?_⟩; have n0_ := aA.mk (bD (g := bP) (o := .cells #[.slice dO aW.length dP, .bool bV, .int .i64 bW, .int .i64 bY, .int .i64 eX, .int .u64 fA, .int .u64 eH, .bool fK] 30 (0, 0)) (by (with_reducible repeat (first | refine bT ?_ _ | refine bI ?_ | refine aY ?_ _)); exact aU.out) hb); have n1_ := aA.mk (aX (by repeat (first | (with_reducible first | exact HB.out | apply aQ | apply aT | apply aV | refine bH ?_ rC.out) | exact HB.out)) hb); clear aU; clear HB; have aU := n0_; have HB := n1_; clear n0_ n1_; (try clear hb); (try clear hb2); (try clear hk); (try clear hi); have U6 : w7.cell? ⟨bP, 0, none⟩ = some (.slice dO aW.length dP) := (aG aU.out 0).trans rfl; have U7 : w7.cell? ⟨bP, 1, none⟩ = some (.bool bV) := (aG aU.out 1).trans rfl; have U8 : w7.cell? ⟨bP, 2, none⟩ = some (.int .i64 bW) := (aG aU.out 2).trans rfl; have U9 : w7.cell? ⟨bP, 3, none⟩ = some (.int .i64 bY) := (aG aU.out 3).trans rfl; have VA : w7.cell? ⟨bP, 4, none⟩ = some (.int .i64 eX) := (aG aU.out 4).trans rfl; have VB : w7.cell? ⟨bP, 5, none⟩ = some (.int .u64 fA) := (aG aU.out 5).trans rfl; have VD : w7.cell? ⟨bP, 6, none⟩ = some (.int .u64 eH) := (aG aU.out 6).trans rfl; have VE : w7.cell? ⟨bP, 7, none⟩ = some (.bool fK) := (aG aU.out 7).trans rfl; have VF := aC aU.out 0; have VG := aC aU.out 1; have VH := aC aU.out 2; have VI := aC aU.out 3; have VJ := aC aU.out 4; have VK := aC aU.out 5; have VL := aC aU.out 6; have VN := aC aU.out 7))
      go_ret
      exact ⟨by first | rfl | (simp [gV, gW] <;> rfl) | (simp [*, gV, gW] <;> rfl), by repeat (first | (with_reducible first | exact HB.out | apply aQ | apply aT | apply aV | refine bH ?_ rC.out) | exact HB.out)⟩
    · rw [if_neg c4] at H
      have qal : decide (eX < 1) = false := decide_eq_false c4
      clear c4
      by_cases c9 : eX > 262144
      · rw [if_pos c9] at H
        have qcS : decide (262144 < eX) = true := decide_eq_true c9
        clear c9
        obtain rfl := Option.some.inj H
        go_enter Tryz.func33, Tryz.ntmps33
        go_wp2_with (first | ((with_reducible refine aP (N := 1) rfl ?_); refine dI ?hg (N := 1) ?hd (cs := #[.slice dO aW.length dP, .bool bV, .int .i64 bW, .int .i64 bY, .int .i64 eX, .int .u64 fA, .int .u64 eH, .bool fK]) (t := 30) ?hr ?_; (case hd => rfl); (case hg => rfl); (case hr => first | (go_simp; done) | (go_simp; rfl)); intro bP hg w10 hbox hb; have n0_ := aA.mk (aX (by repeat (first | (with_reducible first | exact HB.out | apply aQ | apply aT | apply aV) | exact HB.out)) hb); have n1_ := aA.mk (hbox); have n2_ := aA.mk ((by rw [hg]; exact (dW (by repeat (first | (with_reducible first | exact HB.out | apply aQ | apply aT | apply aV) | exact HB.out))) : w.heap.size ≤ bP)); have n3_ := aA.mk ((by rw [hg]; exact (dW (by repeat (first | (with_reducible first | exact HB.out | apply aQ | apply aT | apply aV) | exact HB.out))) : w.heap.size ≤ bP)); clear HB; have HB := n0_; have aU := n1_; have SY := n2_; have rC := n3_; clear n0_ n1_ n2_ n3_; clear hb hbox hg; have OX : w10.cell? ⟨bP, 0, none⟩ = some (.slice dO aW.length dP) := (aG aU.out 0).trans rfl; have OY : w10.cell? ⟨bP, 1, none⟩ = some (.bool bV) := (aG aU.out 1).trans rfl; have OZ : w10.cell? ⟨bP, 2, none⟩ = some (.int .i64 bW) := (aG aU.out 2).trans rfl; have O1 : w10.cell? ⟨bP, 3, none⟩ = some (.int .i64 bY) := (aG aU.out 3).trans rfl; have O4 : w10.cell? ⟨bP, 4, none⟩ = some (.int .i64 eX) := (aG aU.out 4).trans rfl; have O5 : w10.cell? ⟨bP, 5, none⟩ = some (.int .u64 fA) := (aG aU.out 5).trans rfl; have O6 : w10.cell? ⟨bP, 6, none⟩ = some (.int .u64 eH) := (aG aU.out 6).trans rfl; have O7 : w10.cell? ⟨bP, 7, none⟩ = some (.bool fK) := (aG aU.out 7).trans rfl; have O8 := aC aU.out 0; have O9 := aC aU.out 1; have PD := aC aU.out 2; have PE := aC aU.out 3; have PG := aC aU.out 4; have PI := aC aU.out 5; have PK := aC aU.out 6; have PL := aC aU.out 7) | ((with_reducible refine jT (f := 50) rfl ?_); refine vX (some 5) rfl rfl Tryz.func50 (by kernel_rfl) rfl #[.agg #[.slice dO aW.length dP, .bool bV, .int .i64 bW, .int .i64 bY]] rfl (by (try simp only [List.map_toArray, List.map_cons, List.map_nil]); first | done | rfl | (simp only [List.length_drop, List.length_take]; rfl)) ?_; (with_reducible refine (dK.calls _ _ aW bV bW bY zD _ ?rD ?rE A2.out).mono ?_); (case rD => repeat (first | exact (Kd.fC zJ.out HB.out) | (with_reducible refine Kd.rY ?_ _) | (with_reducible refine Kd.rZ ?_ _) | (with_reducible refine Kd.vW ?_))); (case rE => exact zK.out); rintro e w12 ⟨rfl, hb⟩; refine ⟨_, rfl, ?_⟩; have n0_ := aA.mk (bD (g := bP) (o := .cells #[.slice dO aW.length dP, .bool bV, .int .i64 bW, .int .i64 bY, .int .i64 eX, .int .u64 fA, .int .u64 eH, .bool fK] 30 (0, 0)) (by (with_reducible repeat (first | refine bT ?_ _ | refine bI ?_ | refine aY ?_ _)); exact aU.out) hb); have n1_ := aA.mk (aX (by repeat (first | (with_reducible first | exact HB.out | apply aQ | apply aT | apply aV | refine bH ?_ rC.out) | exact HB.out)) hb); clear aU; clear HB; have aU := n0_; have HB := n1_; clear n0_ n1_; (try clear hb); (try clear hb2); (try clear hk); (try clear hi); have PN : w12.cell? ⟨bP, 0, none⟩ = some (.slice dO aW.length dP) := (aG aU.out 0).trans rfl; have PO : w12.cell? ⟨bP, 1, none⟩ = some (.bool bV) := (aG aU.out 1).trans rfl; have PS : w12.cell? ⟨bP, 2, none⟩ = some (.int .i64 bW) := (aG aU.out 2).trans rfl; have PU : w12.cell? ⟨bP, 3, none⟩ = some (.int .i64 bY) := (aG aU.out 3).trans rfl; have PV : w12.cell? ⟨bP, 4, none⟩ = some (.int .i64 eX) := (aG aU.out 4).trans rfl; have PW : w12.cell? ⟨bP, 5, none⟩ = some (.int .u64 fA) := (aG aU.out 5).trans rfl; have PX : w12.cell? ⟨bP, 6, none⟩ = some (.int .u64 eH) := (aG aU.out 6).trans rfl; have PY : w12.cell? ⟨bP, 7, none⟩ = some (.bool fK) := (aG aU.out 7).trans rfl; have PZ := aC aU.out 0; have P5 := aC aU.out 1; have P6 := aC aU.out 2; have P7 := aC aU.out 3; have P8 := aC aU.out 4; have P9 := aC aU.out 5; have QA := aC aU.out 6; have QC := aC aU.out 7))
        go_ret
        exact ⟨by first | rfl | (simp [gV, gW] <;> rfl) | (simp [*, gV, gW] <;> rfl), by repeat (first | (with_reducible first | exact HB.out | apply aQ | apply aT | apply aV | refine bH ?_ rC.out) | exact HB.out)⟩
      · rw [if_neg c9] at H
        have qcS : decide (262144 < eX) = false := decide_eq_false c9
        clear c9
        by_cases c14 : fA > eH
        · rw [if_pos c14] at H
          have qfh : decide (eH < fA) = true := decide_eq_true c14
          clear c14
          obtain rfl := Option.some.inj H
          go_enter Tryz.func33, Tryz.ntmps33
          go_wp2_with (first | ((with_reducible refine aP (N := 1) rfl ?_); refine dI ?hg (N := 1) ?hd (cs := #[.slice dO aW.length dP, .bool bV, .int .i64 bW, .int .i64 bY, .int .i64 eX, .int .u64 fA, .int .u64 eH, .bool fK]) (t := 30) ?hr ?_; (case hd => rfl); (case hg => rfl); (case hr => first | (go_simp; done) | (go_simp; rfl)); intro bP hg w15 hbox hb; have n0_ := aA.mk (aX (by repeat (first | (with_reducible first | exact HB.out | apply aQ | apply aT | apply aV) | exact HB.out)) hb); have n1_ := aA.mk (hbox); have n2_ := aA.mk ((by rw [hg]; exact (dW (by repeat (first | (with_reducible first | exact HB.out | apply aQ | apply aT | apply aV) | exact HB.out))) : w.heap.size ≤ bP)); have n3_ := aA.mk ((by rw [hg]; exact (dW (by repeat (first | (with_reducible first | exact HB.out | apply aQ | apply aT | apply aV) | exact HB.out))) : w.heap.size ≤ bP)); clear HB; have HB := n0_; have aU := n1_; have SY := n2_; have rC := n3_; clear n0_ n1_ n2_ n3_; clear hb hbox hg; have WQ : w15.cell? ⟨bP, 0, none⟩ = some (.slice dO aW.length dP) := (aG aU.out 0).trans rfl; have WR : w15.cell? ⟨bP, 1, none⟩ = some (.bool bV) := (aG aU.out 1).trans rfl; have WS : w15.cell? ⟨bP, 2, none⟩ = some (.int .i64 bW) := (aG aU.out 2).trans rfl; have WT : w15.cell? ⟨bP, 3, none⟩ = some (.int .i64 bY) := (aG aU.out 3).trans rfl; have WU : w15.cell? ⟨bP, 4, none⟩ = some (.int .i64 eX) := (aG aU.out 4).trans rfl; have WV : w15.cell? ⟨bP, 5, none⟩ = some (.int .u64 fA) := (aG aU.out 5).trans rfl; have WW : w15.cell? ⟨bP, 6, none⟩ = some (.int .u64 eH) := (aG aU.out 6).trans rfl; have WX : w15.cell? ⟨bP, 7, none⟩ = some (.bool fK) := (aG aU.out 7).trans rfl; have WY := aC aU.out 0; have WZ := aC aU.out 1; have W9 := aC aU.out 2; have XA := aC aU.out 3; have XB := aC aU.out 4; have XC := aC aU.out 5; have XD := aC aU.out 6; have XE := aC aU.out 7) | ((with_reducible refine jT (f := 50) rfl ?_); refine vX (some 5) rfl rfl Tryz.func50 (by kernel_rfl) rfl #[.agg #[.slice dO aW.length dP, .bool bV, .int .i64 bW, .int .i64 bY]] rfl (by (try simp only [List.map_toArray, List.map_cons, List.map_nil]); first | done | rfl | (simp only [List.length_drop, List.length_take]; rfl)) ?_; (with_reducible refine (dK.calls _ _ aW bV bW bY zD _ ?rD ?rE A2.out).mono ?_); (case rD => repeat (first | exact (Kd.fC zJ.out HB.out) | (with_reducible refine Kd.rY ?_ _) | (with_reducible refine Kd.rZ ?_ _) | (with_reducible refine Kd.vW ?_))); (case rE => exact zK.out); rintro e w17 ⟨rfl, hb⟩; refine ⟨_, rfl, ?_⟩; have n0_ := aA.mk (bD (g := bP) (o := .cells #[.slice dO aW.length dP, .bool bV, .int .i64 bW, .int .i64 bY, .int .i64 eX, .int .u64 fA, .int .u64 eH, .bool fK] 30 (0, 0)) (by (with_reducible repeat (first | refine bT ?_ _ | refine bI ?_ | refine aY ?_ _)); exact aU.out) hb); have n1_ := aA.mk (aX (by repeat (first | (with_reducible first | exact HB.out | apply aQ | apply aT | apply aV | refine bH ?_ rC.out) | exact HB.out)) hb); clear aU; clear HB; have aU := n0_; have HB := n1_; clear n0_ n1_; (try clear hb); (try clear hb2); (try clear hk); (try clear hi); have qfP : w17.cell? ⟨bP, 0, none⟩ = some (.slice dO aW.length dP) := (aG aU.out 0).trans rfl; have qfQ : w17.cell? ⟨bP, 1, none⟩ = some (.bool bV) := (aG aU.out 1).trans rfl; have qfR : w17.cell? ⟨bP, 2, none⟩ = some (.int .i64 bW) := (aG aU.out 2).trans rfl; have qfS : w17.cell? ⟨bP, 3, none⟩ = some (.int .i64 bY) := (aG aU.out 3).trans rfl; have qfT : w17.cell? ⟨bP, 4, none⟩ = some (.int .i64 eX) := (aG aU.out 4).trans rfl; have qfU : w17.cell? ⟨bP, 5, none⟩ = some (.int .u64 fA) := (aG aU.out 5).trans rfl; have qfV : w17.cell? ⟨bP, 6, none⟩ = some (.int .u64 eH) := (aG aU.out 6).trans rfl; have qfW : w17.cell? ⟨bP, 7, none⟩ = some (.bool fK) := (aG aU.out 7).trans rfl; have qfX := aC aU.out 0; have qfY := aC aU.out 1; have qfZ := aC aU.out 2; have qf0 := aC aU.out 3; have qf1 := aC aU.out 4; have qf2 := aC aU.out 5; have qf3 := aC aU.out 6; have qf4 := aC aU.out 7))
          go_ret
          exact ⟨by first | rfl | (simp [gV, gW] <;> rfl) | (simp [*, gV, gW] <;> rfl), by repeat (first | (with_reducible first | exact HB.out | apply aQ | apply aT | apply aV | refine bH ?_ rC.out) | exact HB.out)⟩
        · rw [if_neg c14] at H
          have qfh : decide (eH < fA) = false := decide_eq_false c14
          clear c14
          by_cases c19 : eH > 4611686018427387904
          · rw [if_pos c19] at H
            have qdG : decide (4611686018427387904 < eH) = true := decide_eq_true c19
            clear c19
            obtain rfl := Option.some.inj H
            go_enter Tryz.func33, Tryz.ntmps33
            go_wp2_with (first | ((with_reducible refine aP (N := 1) rfl ?_); refine dI ?hg (N := 1) ?hd (cs := #[.slice dO aW.length dP, .bool bV, .int .i64 bW, .int .i64 bY, .int .i64 eX, .int .u64 fA, .int .u64 eH, .bool fK]) (t := 30) ?hr ?_; (case hd => rfl); (case hg => rfl); (case hr => first | (go_simp; done) | (go_simp; rfl)); intro bP hg w20 hbox hb; have n0_ := aA.mk (aX (by repeat (first | (with_reducible first | exact HB.out | apply aQ | apply aT | apply aV) | exact HB.out)) hb); have n1_ := aA.mk (hbox); have n2_ := aA.mk ((by rw [hg]; exact (dW (by repeat (first | (with_reducible first | exact HB.out | apply aQ | apply aT | apply aV) | exact HB.out))) : w.heap.size ≤ bP)); have n3_ := aA.mk ((by rw [hg]; exact (dW (by repeat (first | (with_reducible first | exact HB.out | apply aQ | apply aT | apply aV) | exact HB.out))) : w.heap.size ≤ bP)); clear HB; have HB := n0_; have aU := n1_; have SY := n2_; have rC := n3_; clear n0_ n1_ n2_ n3_; clear hb hbox hg; have qf5 : w20.cell? ⟨bP, 0, none⟩ = some (.slice dO aW.length dP) := (aG aU.out 0).trans rfl; have qf6 : w20.cell? ⟨bP, 1, none⟩ = some (.bool bV) := (aG aU.out 1).trans rfl; have qf7 : w20.cell? ⟨bP, 2, none⟩ = some (.int .i64 bW) := (aG aU.out 2).trans rfl; have qf8 : w20.cell? ⟨bP, 3, none⟩ = some (.int .i64 bY) := (aG aU.out 3).trans rfl; have qf9 : w20.cell? ⟨bP, 4, none⟩ = some (.int .i64 eX) := (aG aU.out 4).trans rfl; have qga : w20.cell? ⟨bP, 5, none⟩ = some (.int .u64 fA) := (aG aU.out 5).trans rfl; have qgb : w20.cell? ⟨bP, 6, none⟩ = some (.int .u64 eH) := (aG aU.out 6).trans rfl; have qgc : w20.cell? ⟨bP, 7, none⟩ = some (.bool fK) := (aG aU.out 7).trans rfl; have qgd := aC aU.out 0; have qge := aC aU.out 1; have qgf := aC aU.out 2; have qgg := aC aU.out 3; have qgh := aC aU.out 4; have qgi := aC aU.out 5; have qgj := aC aU.out 6; have qgk := aC aU.out 7) | ((with_reducible refine jT (f := 50) rfl ?_); refine vX (some 5) rfl rfl Tryz.func50 (by kernel_rfl) rfl #[.agg #[.slice dO aW.length dP, .bool bV, .int .i64 bW, .int .i64 bY]] rfl (by (try simp only [List.map_toArray, List.map_cons, List.map_nil]); first | done | rfl | (simp only [List.length_drop, List.length_take]; rfl)) ?_; (with_reducible refine (dK.calls _ _ aW bV bW bY zD _ ?rD ?rE A2.out).mono ?_); (case rD => repeat (first | exact (Kd.fC zJ.out HB.out) | (with_reducible refine Kd.rY ?_ _) | (with_reducible refine Kd.rZ ?_ _) | (with_reducible refine Kd.vW ?_))); (case rE => exact zK.out); rintro e w22 ⟨rfl, hb⟩; refine ⟨_, rfl, ?_⟩; have n0_ := aA.mk (bD (g := bP) (o := .cells #[.slice dO aW.length dP, .bool bV, .int .i64 bW, .int .i64 bY, .int .i64 eX, .int .u64 fA, .int .u64 eH, .bool fK] 30 (0, 0)) (by (with_reducible repeat (first | refine bT ?_ _ | refine bI ?_ | refine aY ?_ _)); exact aU.out) hb); have n1_ := aA.mk (aX (by repeat (first | (with_reducible first | exact HB.out | apply aQ | apply aT | apply aV | refine bH ?_ rC.out) | exact HB.out)) hb); clear aU; clear HB; have aU := n0_; have HB := n1_; clear n0_ n1_; (try clear hb); (try clear hb2); (try clear hk); (try clear hi); have qgl : w22.cell? ⟨bP, 0, none⟩ = some (.slice dO aW.length dP) := (aG aU.out 0).trans rfl; have qgm : w22.cell? ⟨bP, 1, none⟩ = some (.bool bV) := (aG aU.out 1).trans rfl; have qgn : w22.cell? ⟨bP, 2, none⟩ = some (.int .i64 bW) := (aG aU.out 2).trans rfl; have qgo : w22.cell? ⟨bP, 3, none⟩ = some (.int .i64 bY) := (aG aU.out 3).trans rfl; have qgp : w22.cell? ⟨bP, 4, none⟩ = some (.int .i64 eX) := (aG aU.out 4).trans rfl; have qgq : w22.cell? ⟨bP, 5, none⟩ = some (.int .u64 fA) := (aG aU.out 5).trans rfl; have qgr : w22.cell? ⟨bP, 6, none⟩ = some (.int .u64 eH) := (aG aU.out 6).trans rfl; have qgs : w22.cell? ⟨bP, 7, none⟩ = some (.bool fK) := (aG aU.out 7).trans rfl; have qgt := aC aU.out 0; have qgu := aC aU.out 1; have qgv := aC aU.out 2; have qgw := aC aU.out 3; have qgx := aC aU.out 4; have qgy := aC aU.out 5; have qgz := aC aU.out 6; have qgA := aC aU.out 7))
            go_ret
            exact ⟨by first | rfl | (simp [gV, gW] <;> rfl) | (simp [*, gV, gW] <;> rfl), by repeat (first | (with_reducible first | exact HB.out | apply aQ | apply aT | apply aV | refine bH ?_ rC.out) | exact HB.out)⟩
          · rw [if_neg c19] at H
            have qdG : decide (4611686018427387904 < eH) = false := decide_eq_false c19
            clear c19
            obtain rfl := Option.some.inj H
            go_enter Tryz.func33, Tryz.ntmps33
            go_wp2_with (first | ((with_reducible refine aP (N := 1) rfl ?_); refine dI ?hg (N := 1) ?hd (cs := #[.slice dO aW.length dP, .bool bV, .int .i64 bW, .int .i64 bY, .int .i64 eX, .int .u64 fA, .int .u64 eH, .bool fK]) (t := 30) ?hr ?_; (case hd => rfl); (case hg => rfl); (case hr => first | (go_simp; done) | (go_simp; rfl)); intro bP hg w24 hbox hb; have n0_ := aA.mk (aX (by repeat (first | (with_reducible first | exact HB.out | apply aQ | apply aT | apply aV) | exact HB.out)) hb); have n1_ := aA.mk (hbox); have n2_ := aA.mk ((by rw [hg]; exact (dW (by repeat (first | (with_reducible first | exact HB.out | apply aQ | apply aT | apply aV) | exact HB.out))) : w.heap.size ≤ bP)); have n3_ := aA.mk ((by rw [hg]; exact (dW (by repeat (first | (with_reducible first | exact HB.out | apply aQ | apply aT | apply aV) | exact HB.out))) : w.heap.size ≤ bP)); clear HB; have HB := n0_; have aU := n1_; have SY := n2_; have rC := n3_; clear n0_ n1_ n2_ n3_; clear hb hbox hg; have qcT : w24.cell? ⟨bP, 0, none⟩ = some (.slice dO aW.length dP) := (aG aU.out 0).trans rfl; have qcU : w24.cell? ⟨bP, 1, none⟩ = some (.bool bV) := (aG aU.out 1).trans rfl; have qcV : w24.cell? ⟨bP, 2, none⟩ = some (.int .i64 bW) := (aG aU.out 2).trans rfl; have qgB : w24.cell? ⟨bP, 3, none⟩ = some (.int .i64 bY) := (aG aU.out 3).trans rfl; have qgC : w24.cell? ⟨bP, 4, none⟩ = some (.int .i64 eX) := (aG aU.out 4).trans rfl; have qgD : w24.cell? ⟨bP, 5, none⟩ = some (.int .u64 fA) := (aG aU.out 5).trans rfl; have qgE : w24.cell? ⟨bP, 6, none⟩ = some (.int .u64 eH) := (aG aU.out 6).trans rfl; have qgF : w24.cell? ⟨bP, 7, none⟩ = some (.bool fK) := (aG aU.out 7).trans rfl; have qcW := aC aU.out 0; have qcX := aC aU.out 1; have qcY := aC aU.out 2; have qgG := aC aU.out 3; have qgH := aC aU.out 4; have qgI := aC aU.out 5; have qgJ := aC aU.out 6; have qgK := aC aU.out 7) | ((with_reducible refine jT (f := 50) rfl ?_); refine vX (some 5) rfl rfl Tryz.func50 (by kernel_rfl) rfl #[.agg #[.slice dO aW.length dP, .bool bV, .int .i64 bW, .int .i64 bY]] rfl (by (try simp only [List.map_toArray, List.map_cons, List.map_nil]); first | done | rfl | (simp only [List.length_drop, List.length_take]; rfl)) ?_; (with_reducible refine (dK.calls _ _ aW bV bW bY zD _ ?rD ?rE A2.out).mono ?_); (case rD => repeat (first | exact (Kd.fC zJ.out HB.out) | (with_reducible refine Kd.rY ?_ _) | (with_reducible refine Kd.rZ ?_ _) | (with_reducible refine Kd.vW ?_))); (case rE => exact zK.out); rintro e w26 ⟨rfl, hb⟩; refine ⟨_, rfl, ?_⟩; have n0_ := aA.mk (bD (g := bP) (o := .cells #[.slice dO aW.length dP, .bool bV, .int .i64 bW, .int .i64 bY, .int .i64 eX, .int .u64 fA, .int .u64 eH, .bool fK] 30 (0, 0)) (by (with_reducible repeat (first | refine bT ?_ _ | refine bI ?_ | refine aY ?_ _)); exact aU.out) hb); have n1_ := aA.mk (aX (by repeat (first | (with_reducible first | exact HB.out | apply aQ | apply aT | apply aV | refine bH ?_ rC.out) | exact HB.out)) hb); clear aU; clear HB; have aU := n0_; have HB := n1_; clear n0_ n1_; (try clear hb); (try clear hb2); (try clear hk); (try clear hi); have qgL : w26.cell? ⟨bP, 0, none⟩ = some (.slice dO aW.length dP) := (aG aU.out 0).trans rfl; have qgM : w26.cell? ⟨bP, 1, none⟩ = some (.bool bV) := (aG aU.out 1).trans rfl; have qgN : w26.cell? ⟨bP, 2, none⟩ = some (.int .i64 bW) := (aG aU.out 2).trans rfl; have qgO : w26.cell? ⟨bP, 3, none⟩ = some (.int .i64 bY) := (aG aU.out 3).trans rfl; have qgP : w26.cell? ⟨bP, 4, none⟩ = some (.int .i64 eX) := (aG aU.out 4).trans rfl; have qgQ : w26.cell? ⟨bP, 5, none⟩ = some (.int .u64 fA) := (aG aU.out 5).trans rfl; have qgR : w26.cell? ⟨bP, 6, none⟩ = some (.int .u64 eH) := (aG aU.out 6).trans rfl; have qgS : w26.cell? ⟨bP, 7, none⟩ = some (.bool fK) := (aG aU.out 7).trans rfl; have qgT := aC aU.out 0; have qgU := aC aU.out 1; have qgV := aC aU.out 2; have qgW := aC aU.out 3; have qgX := aC aU.out 4; have qgY := aC aU.out 5; have qgZ := aC aU.out 6; have qg0 := aC aU.out 7))
            go_ret
            exact ⟨by first | rfl | (simp [gV, gW] <;> rfl) | (simp [*, gV, gW] <;> rfl), by repeat (first | (with_reducible first | exact HB.out | apply aQ | apply aT | apply aV | refine bH ?_ rC.out) | exact HB.out)⟩
  · rw [if_neg c3] at H
    have IV : (zD == 0) = false := beq_eq_false_iff_ne.mpr c3
    have SX : (zD != 0) = true := bne_iff_ne.mpr c3
    obtain rfl := Option.some.inj H
    go_enter Tryz.func33, Tryz.ntmps33
    go_wp2_with (first | ((with_reducible refine aP (N := 1) rfl ?_); refine dI ?hg (N := 1) ?hd (cs := #[.slice dO aW.length dP, .bool bV, .int .i64 bW, .int .i64 bY, .int .i64 eX, .int .u64 fA, .int .u64 eH, .bool fK]) (t := 30) ?hr ?_; (case hd => rfl); (case hg => rfl); (case hr => first | (go_simp; done) | (go_simp; rfl)); intro bP hg w28 hbox hb; have n0_ := aA.mk (aX (by repeat (first | (with_reducible first | exact HB.out | apply aQ | apply aT | apply aV) | exact HB.out)) hb); have n1_ := aA.mk (hbox); have n2_ := aA.mk ((by rw [hg]; exact (dW (by repeat (first | (with_reducible first | exact HB.out | apply aQ | apply aT | apply aV) | exact HB.out))) : w.heap.size ≤ bP)); have n3_ := aA.mk ((by rw [hg]; exact (dW (by repeat (first | (with_reducible first | exact HB.out | apply aQ | apply aT | apply aV) | exact HB.out))) : w.heap.size ≤ bP)); clear HB; have HB := n0_; have aU := n1_; have SY := n2_; have rC := n3_; clear n0_ n1_ n2_ n3_; clear hb hbox hg; have qcZ : w28.cell? ⟨bP, 0, none⟩ = some (.slice dO aW.length dP) := (aG aU.out 0).trans rfl; have qc0 : w28.cell? ⟨bP, 1, none⟩ = some (.bool bV) := (aG aU.out 1).trans rfl; have qc7 : w28.cell? ⟨bP, 2, none⟩ = some (.int .i64 bW) := (aG aU.out 2).trans rfl; have qg1 : w28.cell? ⟨bP, 3, none⟩ = some (.int .i64 bY) := (aG aU.out 3).trans rfl; have qg2 : w28.cell? ⟨bP, 4, none⟩ = some (.int .i64 eX) := (aG aU.out 4).trans rfl; have qg3 : w28.cell? ⟨bP, 5, none⟩ = some (.int .u64 fA) := (aG aU.out 5).trans rfl; have qg4 : w28.cell? ⟨bP, 6, none⟩ = some (.int .u64 eH) := (aG aU.out 6).trans rfl; have qg5 : w28.cell? ⟨bP, 7, none⟩ = some (.bool fK) := (aG aU.out 7).trans rfl; have qc8 := aC aU.out 0; have qc9 := aC aU.out 1; have qda := aC aU.out 2; have qg6 := aC aU.out 3; have qg7 := aC aU.out 4; have qg8 := aC aU.out 5; have qg9 := aC aU.out 6; have qha := aC aU.out 7) | ((with_reducible refine jT (f := 50) rfl ?_); refine vX (some 5) rfl rfl Tryz.func50 (by kernel_rfl) rfl #[.agg #[.slice dO aW.length dP, .bool bV, .int .i64 bW, .int .i64 bY]] rfl (by (try simp only [List.map_toArray, List.map_cons, List.map_nil]); first | done | rfl | (simp only [List.length_drop, List.length_take]; rfl)) ?_; (with_reducible refine (dK.calls _ _ aW bV bW bY zD _ ?rD ?rE A2.out).mono ?_); (case rD => repeat (first | exact (Kd.fC zJ.out HB.out) | (with_reducible refine Kd.rY ?_ _) | (with_reducible refine Kd.rZ ?_ _) | (with_reducible refine Kd.vW ?_))); (case rE => exact zK.out); rintro e w30 ⟨rfl, hb⟩; refine ⟨_, rfl, ?_⟩; have n0_ := aA.mk (bD (g := bP) (o := .cells #[.slice dO aW.length dP, .bool bV, .int .i64 bW, .int .i64 bY, .int .i64 eX, .int .u64 fA, .int .u64 eH, .bool fK] 30 (0, 0)) (by (with_reducible repeat (first | refine bT ?_ _ | refine bI ?_ | refine aY ?_ _)); exact aU.out) hb); have n1_ := aA.mk (aX (by repeat (first | (with_reducible first | exact HB.out | apply aQ | apply aT | apply aV | refine bH ?_ rC.out) | exact HB.out)) hb); clear aU; clear HB; have aU := n0_; have HB := n1_; clear n0_ n1_; (try clear hb); (try clear hb2); (try clear hk); (try clear hi)))
    go_ret
    exact ⟨by first | rfl | (simp [gV, gW] <;> rfl) | (simp [*, gV, gW] <;> rfl), by repeat (first | (with_reducible first | exact HB.out | apply aQ | apply aT | apply aV | refine bH ?_ rC.out) | exact HB.out)⟩
end Go.Proofs.U
namespace Go.Proofs.U
open Go.RowKit Go.Proofs.YW.PrintWords Go.Proofs.YW.PrintLast Go.Proofs.YW.PrintMore Go.Proofs.Sp Go.Proofs.fG
def okL (L : Lg) : Prop := bF L.l = true ∧ 1 ≤ L.size ∧ L.size ≤ 262144 ∧ L.fr ≤ L.nx ∧ L.nx ≤ 4611686018427387904
open Classical in
theorem yE (L : Lg) : fP.f L.l L.dn L.fu L.fa L.size L.fr L.nx L.br = some (if okL L then 0 else 6) := by
  unfold fP.f dK.f okL
  by_cases h : bF L.l = true
  · simp only [if_pos h, Option.bind_some, if_true]
    by_cases h1 : L.size < 1
    · rw [if_pos h1, if_neg (fun x => by omega)]
    · rw [if_neg h1]
      by_cases h2 : L.size > 262144
      · rw [if_pos h2, if_neg (fun x => by omega)]
      · rw [if_neg h2]
        by_cases h3 : L.fr > L.nx
        · rw [if_pos h3, if_neg (fun x => by omega)]
        · rw [if_neg h3]
          by_cases h4 : L.nx > 4611686018427387904
          · rw [if_pos h4, if_neg (fun x => by omega)]
          · rw [if_neg h4, if_pos ⟨h, by omega, by omega, by omega, by omega⟩]
  · simp only [if_neg h, Option.bind_some]
    rw [if_neg (by decide), if_neg (fun x => h x.1)]
open Classical in
noncomputable def dM (L : Lg) (d : ByteArray) : Lg × Int := if okL L then jE L d else (Lz, 6)
set_option maxHeartbeats 8000000 in
theorem S9 (A : Option Addr) (c : Nat) (l : List S67) (dn : Bool) (fu fa size fr : Int) (n : Nat) (br : Bool) (d : ByteArray) (w : World) (hr : Kd.C k67 w A l.length l) (hc : l.length ≤ c) (hG : Gl w) (hn : n < 18446744073709551616) :
  Calls Tryz.prog 31 #[.agg #[.slice A l.length c, .bool dn, .int .i64 fu, .int .i64 fa, .int .i64 size, .int .u64 fr, .int .u64 (n : Int), .bool br], .string d] w fun e w' => ∃ A' c', e = .returned (.tuple #[.agg (lgc A' c' (dM ⟨l, dn, fu, fa, size, fr, (n : Int), br⟩ d).1).toArray, .int .i64 (dM ⟨l, dn, fu, fa, size, fr, (n : Int), br⟩ d).2])
   ∧ aA (Sep w w' [oJ A' c' (dM ⟨l, dn, fu, fa, size, fr, (n : Int), br⟩ d).1.l]) := by
 have HRp := aA.mk hr
 have HCp := aA.mk hc
 have HG := aA.mk hG
 clear hr hc hG
 obtain ⟨O, hO⟩ : ∃ O, O = dM ⟨l, dn, fu, fa, size, fr, (n : Int), br⟩ d := ⟨_, rfl⟩
 rw [← hO]
 have HO := aA.mk hO
 clear hO
 have H := aA.mk (Sep.start w)
 go_enter Tryz.func31, Tryz.ntmps31
 go_wp2_with (first
 |((with_reducible refine aP (N := 2) rfl ?_);
   refine bG rfl H (cs := [.slice A l.length c, .bool dn, .int .i64 fu, .int .i64 fa, .int .i64 size, .int .u64 fr, .int .u64 (n : Int), .bool br]) (t := 30) ?hr ?_;
   (case hr => first | (go_simp; done) | (go_simp; rfl));
   intro gm wd1 n_;
   simp only [Act.put, zA, zZ, zS];
   clear H;
   have H := n_;
   clear n_;
   have c_m := H.out.cell (g := gm) aJ)
 |((with_reducible refine aP (N := 3) rfl ?_);
   refine bG rfl H (cs := [.string d]) (t := 9) ?hr ?_;
   (case hr => first | (go_simp; done) | (go_simp; rfl));
   intro gt wd2 n_;
   simp only [Act.put, zA, zZ, zS];
   clear H c_m;
   have H := n_;
   clear n_;
   have c_t := H.out.cell (g := gt) aJ;
   have c_m := H.out.cell (g := gm) mem1)
 |((with_reducible refine aP (N := 4) rfl ?_);
   refine bG rfl H (cs := [.slice none 0 0, .bool false, .int .i64 0, .int .i64 0, .int .i64 0, .int .u64 0, .int .u64 0, .bool false]) (t := 30) ?hr ?_;
   (case hr => first | (go_simp; done) | (go_simp; rfl));
   intro gz wd3 n_;
   simp only [Act.put, zA, zZ, zS];
   clear H c_t c_m;
   have H := n_;
   clear n_;
   have c_z := H.out.cell (g := gz) aJ;
   have c_t := H.out.cell (g := gt) mem1;
   have c_m := H.out.cell (g := gm) mem2)
 |fail)
 by_cases hok : okL ⟨l, dn, fu, fa, size, fr, (n : Int), br⟩
 ·
  refine ((fP.calls A c l dn fu fa size fr (n : Int) br 0 _ (H.out.came HRp.out) HCp.out (by have h := yE ⟨l, dn, fu, fa, size, fr, (n : Int), br⟩; rw [if_pos hok] at h; exact h)).mono ?_)
  rintro e wd4 ⟨rfl, hb_⟩
  have n_ : aA (Sep w wd4 [box gz [.slice none 0 0, .bool false, .int .i64 0, .int .i64 0, .int .i64 0, .int .u64 0, .int .u64 0, .bool false] 30, box gt [.string d] 9, box gm [.slice A l.length c, .bool dn, .int .i64 fu, .int .i64 fa, .int .i64 size, .int .u64 fr, .int .u64 (n : Int), .bool br] 30]) := ⟨H.out.step hb_⟩
  clear H c_z c_t c_m
  have H := n_
  clear n_
  have c_z := H.out.cell (g := gz) aJ
  have c_t := H.out.cell (g := gt) mem1
  have c_m := H.out.cell (g := gm) mem2
  clear hb_
  have hlen : l.length ≤ 64 := kK hok.1
  have hs1 : 1 ≤ size := hok.2.1
  have hs2 : size ≤ 262144 := hok.2.2.1
  have hok1 : bF l = true := hok.1
  have SV := aA.mk hok1
  have hOV : O = jE ⟨l, dn, fu, fa, size, fr, (n : Int), br⟩ d := by rw [HO.out, dM, if_pos hok]
  have HOV := aA.mk hOV
  clear hok hok1 HO hOV
  go_wp2_with fail
  refine ((OT A c l dn fu fa _ (H.out.came HRp.out) hlen).mono ?_)
  rintro e wd5 ⟨A3, c3, rfl, HJ⟩
  have n_ : aA (Sep w wd5 [row k67 67 (.slice A3 (l).length c3) l, box gz [.slice none 0 0, .bool false, .int .i64 0, .int .i64 0, .int .i64 0, .int .u64 0, .int .u64 0, .bool false] 30, box gt [.string d] 9, box gm [.slice A l.length c, .bool dn, .int .i64 fu, .int .i64 fa, .int .i64 size, .int .u64 fr, .int .u64 (n : Int), .bool br] 30]) := ⟨eY H.out HJ.out⟩
  clear H c_z c_t c_m
  have H := n_
  clear n_
  have c_z := H.out.cell (g := gz) mem1
  have c_t := H.out.cell (g := gt) mem2
  have c_m := H.out.cell (g := gm) mem3
  have z_m := H.out.frozen (g := gm) mem3
  clear HJ
  go_wp2_with (first
 |((with_reducible refine aN (t := 27) (p := 14) rfl ?_);
   refine aZ (rs1 := [row k67 67 (.slice A3 (l).length c3) l, box gz [.slice none 0 0, .bool false, .int .i64 0, .int .i64 0, .int .i64 0, .int .u64 0, .int .u64 0, .bool false] 30, box gt [.string d] 9, box gm [.slice A3 l.length c3, .bool dn, .int .i64 fu, .int .i64 fa, .int .i64 size, .int .u64 fr, .int .u64 (n : Int), .bool br] 30]) rfl (t := 27) (p := 14) rfl rfl ?hr (H1 := (Sep.dZ (Sep.dZ (Sep.dZ (Sep.dZ H.out 0 (.slice A3 l.length c3) rfl) 1 (.bool dn) rfl) 2 (.int .i64 fu) rfl) 3 (.int .i64 fa) rfl)) ?_;
   (case hr => first | (go_simp; done) | (go_simp; rfl));
   intro wd6 n_;
   clear H c_z c_t c_m z_m;
   have H := n_;
   clear n_;
   have c_z := H.out.cell (g := gz) mem1;
   have c_t := H.out.cell (g := gt) mem2;
   have c_m := H.out.cell (g := gm) mem3;
   have z_m := H.out.frozen (g := gm) mem3)
 |((with_reducible refine aP (N := 17) rfl ?_);
   refine bG rfl H (cs := [.slice A3 l.length c3, .bool dn, .int .i64 fu, .int .i64 fa, .int .i64 size, .int .u64 fr, .int .u64 (n : Int), .bool br]) (t := 134) ?hr ?_;
   (case hr => first | (go_simp; done) | (go_simp; rfl));
   intro gl wd7 n_;
   simp only [Act.put, zA, zZ, zS];
   clear H c_z c_t c_m z_m;
   have H := n_;
   clear n_;
   have c_l := H.out.cell (g := gl) aJ;
   have c_z := H.out.cell (g := gz) mem2;
   have c_t := H.out.cell (g := gt) mem3;
   have c_m := H.out.cell (g := gm) bK;
   have z_m := H.out.frozen (g := gm) bK)
 |((with_reducible refine aP (N := 6) rfl ?_);
   refine bG rfl H (cs := [.pointer none]) (t := 131) ?hr ?_;
   (case hr => first | (go_simp; done) | (go_simp; rfl));
   intro gv wd8 n_;
   simp only [Act.put, zA, zZ, zS];
   clear H c_l c_z c_t c_m z_m;
   have H := n_;
   clear n_;
   have c_v := H.out.cell (g := gv) aJ;
   have z_v := H.out.frozen (g := gv) aJ;
   have c_l := H.out.cell (g := gl) mem1;
   have c_z := H.out.cell (g := gz) mem3;
   have c_t := H.out.cell (g := gt) bK;
   have c_m := H.out.cell (g := gm) dJ;
   have z_m := H.out.frozen (g := gm) dJ)
 |((with_reducible refine aN (t := 131) (p := 6) rfl ?_);
   refine aZ (rs1 := [box gv [.pointer (some ⟨gl, 0, none⟩)] 131, box gl [.slice A3 l.length c3, .bool dn, .int .i64 fu, .int .i64 fa, .int .i64 size, .int .u64 fr, .int .u64 (n : Int), .bool br] 134, row k67 67 (.slice A3 (l).length c3) l, box gz [.slice none 0 0, .bool false, .int .i64 0, .int .i64 0, .int .i64 0, .int .u64 0, .int .u64 0, .bool false] 30, box gt [.string d] 9, box gm [.slice A3 l.length c3, .bool dn, .int .i64 fu, .int .i64 fa, .int .i64 size, .int .u64 fr, .int .u64 (n : Int), .bool br] 30]) rfl (t := 131) (p := 6) rfl rfl ?hr (H1 := (Sep.set0 H.out 0 (.pointer (some ⟨gl, 0, none⟩)) rfl)) ?_;
   (case hr => first | (go_simp; done) | (go_simp; rfl));
   intro wd9 n_;
   clear H c_v z_v c_l c_z c_t c_m z_m;
   have H := n_;
   clear n_;
   have c_v := H.out.cell (g := gv) aJ;
   have z_v := H.out.frozen (g := gv) aJ;
   have c_l := H.out.cell (g := gl) mem1;
   have c_z := H.out.cell (g := gz) mem3;
   have c_t := H.out.cell (g := gt) bK;
   have c_m := H.out.cell (g := gm) dJ;
   have z_m := H.out.frozen (g := gm) dJ)
 |fail)
  have hdo := yA (qak w gl gm gt gv l dn fu fa size fr n br d A3 c3 SV.out (HG.out) hn hs1 hs2) [box gz [.slice none 0 0, .bool false, .int .i64 0, .int .i64 0, .int .i64 0, .int .u64 0, .int .u64 0, .bool false] 30]
  rw [← HOV.out] at hdo
  refine (AV hdo (fun args w => by simp [go_sem]) A3 c3 _ ⟨(Sep.oV (Sep.oV (Sep.oV (Sep.gI (Sep.iP (Sep.kZ H.out))))))⟩).mono ?_
  rintro e FC ⟨A4, c4, rfl, H2⟩
  clear hdo
  have n_ : aA (Sep w FC [box gl [.slice A4 O.1.l.length c4, .bool O.1.dn, .int .i64 O.1.fu, .int .i64 O.1.fa, .int .i64 O.1.size, .int .u64 O.1.fr, .int .u64 O.1.nx, .bool O.1.br] 134, row k67 67 (.slice A4 (O.1.l).length c4) O.1.l, box gm [.slice A3 l.length c3, .bool dn, .int .i64 fu, .int .i64 fa, .int .i64 size, .int .u64 fr, .int .u64 (n : Int), .bool br] 30, box gt [.string d] 9, box gv [.pointer (some ⟨gl, 0, none⟩)] 131, box gz [.slice none 0 0, .bool false, .int .i64 0, .int .i64 0, .int .i64 0, .int .u64 0, .int .u64 0, .bool false] 30]) := ⟨H2.out⟩
  clear H c_v z_v c_l c_z c_t c_m z_m
  have H := n_
  clear n_
  have c_l := H.out.cell (g := gl) aJ
  have c_m := H.out.cell (g := gm) mem2
  have c_t := H.out.cell (g := gt) mem3
  have c_v := H.out.cell (g := gv) bK
  have c_z := H.out.cell (g := gz) dJ
  have z_z := H.out.frozen (g := gz) dJ
  clear H2
  simp only [lgc]
  go_wp2_with (first
 |((with_reducible refine aN (t := 30) (p := 4) rfl ?_);
   refine aZ (rs1 := [box gl [.slice A4 O.1.l.length c4, .bool O.1.dn, .int .i64 O.1.fu, .int .i64 O.1.fa, .int .i64 O.1.size, .int .u64 O.1.fr, .int .u64 O.1.nx, .bool O.1.br] 134, row k67 67 (.slice A4 (O.1.l).length c4) O.1.l, box gm [.slice A3 l.length c3, .bool dn, .int .i64 fu, .int .i64 fa, .int .i64 size, .int .u64 fr, .int .u64 (n : Int), .bool br] 30, box gt [.string d] 9, box gv [.pointer (some ⟨gl, 0, none⟩)] 131, box gz [.slice A4 O.1.l.length c4, .bool O.1.dn, .int .i64 O.1.fu, .int .i64 O.1.fa, .int .i64 O.1.size, .int .u64 O.1.fr, .int .u64 O.1.nx, .bool O.1.br] 30]) rfl (t := 30) (p := 4) rfl rfl ?hr (H1 := (Sep.fZ (Sep.fZ (Sep.fZ (Sep.fZ (Sep.fZ (Sep.fZ (Sep.fZ (Sep.fZ H.out 0 (.slice A4 O.1.l.length c4) rfl) 1 (.bool O.1.dn) rfl) 2 (.int .i64 O.1.fu) rfl) 3 (.int .i64 O.1.fa) rfl) 4 (.int .i64 O.1.size) rfl) 5 (.int .u64 O.1.fr) rfl) 6 (.int .u64 O.1.nx) rfl) 7 (.bool O.1.br) rfl)) ?_;
   (case hr => first | (go_simp; done) | (go_simp; rfl));
   intro MH n_;
   clear H c_l c_m c_t c_v c_z z_z;
   have H := n_;
   clear n_;
   have c_l := H.out.cell (g := gl) aJ;
   have c_m := H.out.cell (g := gm) mem2;
   have c_t := H.out.cell (g := gt) mem3;
   have c_v := H.out.cell (g := gv) bK;
   have c_z := H.out.cell (g := gz) dJ;
   have z_z := H.out.frozen (g := gz) dJ)
 |fail)
  refine bodyPost_ret (dB (rs := [.cell 4 30, .tmp 5]) rfl (by simp) (.cell gz 30 _ _ _ rfl (H.out.jK (g := gz) dJ) Tryz.underlying30 rfl info30 (.tmp .nil))) rfl ?_
  exact ⟨A4, c4, rfl, ⟨(Sep.dV (Sep.drop2 (Sep.gK (Sep.jO (Sep.rV H.out)))))⟩⟩
 ·
  refine ((fP.calls A c l dn fu fa size fr (n : Int) br 6 _ (H.out.came HRp.out) HCp.out (by have h := yE ⟨l, dn, fu, fa, size, fr, (n : Int), br⟩; rw [if_neg hok] at h; exact h)).mono ?_)
  rintro e DU ⟨rfl, hb_⟩
  have n_ : aA (Sep w DU [box gz [.slice none 0 0, .bool false, .int .i64 0, .int .i64 0, .int .i64 0, .int .u64 0, .int .u64 0, .bool false] 30, box gt [.string d] 9, box gm [.slice A l.length c, .bool dn, .int .i64 fu, .int .i64 fa, .int .i64 size, .int .u64 fr, .int .u64 (n : Int), .bool br] 30]) := ⟨H.out.step hb_⟩
  clear H c_z c_t c_m
  have H := n_
  clear n_
  have c_z := H.out.cell (g := gz) aJ
  have c_t := H.out.cell (g := gt) mem1
  have c_m := H.out.cell (g := gm) mem2
  clear hb_
  have hOV : O = (Lz, 6) := by rw [HO.out, dM, if_neg hok]
  clear HO hok
  clear c_z c_t c_m
  have c_z := H.out.cell (g := gz) aJ
  have z_z := H.out.frozen (g := gz) aJ
  have c_t := H.out.cell (g := gt) mem1
  have c_m := H.out.cell (g := gm) mem2
  go_wp2_with (first
 |((with_reducible refine aN (t := 30) (p := 4) rfl ?_);
   refine aZ (rs1 := [box gz [.slice none 0 0, .bool false, .int .i64 0, .int .i64 0, .int .i64 0, .int .u64 0, .int .u64 0, .bool false] 30, box gt [.string d] 9, box gm [.slice A l.length c, .bool dn, .int .i64 fu, .int .i64 fa, .int .i64 size, .int .u64 fr, .int .u64 (n : Int), .bool br] 30]) rfl (t := 30) (p := 4) rfl rfl ?hr (H1 := (Sep.set0 (Sep.set0 (Sep.set0 (Sep.set0 (Sep.set0 (Sep.set0 (Sep.set0 (Sep.set0 H.out 0 (.slice none 0 0) rfl) 1 (.bool false) rfl) 2 (.int .i64 0) rfl) 3 (.int .i64 0) rfl) 4 (.int .i64 0) rfl) 5 (.int .u64 0) rfl) 6 (.int .u64 0) rfl) 7 (.bool false) rfl)) ?_;
   (case hr => first | (go_simp; done) | (go_simp; rfl));
   intro KI n_;
   clear H c_z z_z c_t c_m;
   have H := n_;
   clear n_;
   have c_z := H.out.cell (g := gz) aJ;
   have z_z := H.out.frozen (g := gz) aJ;
   have c_t := H.out.cell (g := gt) mem1;
   have c_m := H.out.cell (g := gm) mem2)
 |fail)
  refine bodyPost_ret (dB (rs := [.cell 4 30, .tmp 5]) rfl (by simp) (.cell gz 30 _ _ _ rfl (H.out.jK (g := gz) aJ) Tryz.underlying30 rfl info30 (.tmp .nil))) rfl ?_
  subst hOV
  exact ⟨none, 0, rfl, ⟨Sep.eG (Sep.dV (Sep.drop1 (Sep.drop2 H.out)))⟩⟩
theorem KL (A : Option Addr) (c : Nat) (L : Lg) (d : ByteArray) (w : World) (hr : Kd.C k67 w A L.l.length L.l) (hc : L.l.length ≤ c) (hG : Gl w) (h0 : 0 ≤ L.nx) (hn : L.nx < 18446744073709551616) :
  Calls Tryz.prog 31 #[.agg (lgc A c L).toArray, .string d] w fun e w' => ∃ A' c', e = .returned (.tuple #[.agg (lgc A' c' (dM L d).1).toArray, .int .i64 (dM L d).2])
   ∧ aA (Sep w w' [oJ A' c' (dM L d).1.l]) := by
 obtain ⟨l, dn, fu, fa, size, fr, nx, br⟩ := L
 obtain ⟨n, hnn⟩ := Int.eq_ofNat_of_zero_le h0
 simp only at hnn
 subst hnn
 simp only at hn
 exact S9 A c l dn fu fa size fr n br d w hr hc hG (by omega)
open Classical in
noncomputable def kT (L : Lg) (q : Int) : Lg × Int := if okL L then uQ L q else (Lz, 6)
set_option maxHeartbeats 8000000 in
theorem qam (A : Option Addr) (c : Nat) (l : List S67) (dn : Bool) (fu fa size fr : Int) (n : Nat) (br : Bool) (q : Int) (hq : 0 ≤ q) (w : World) (hr : Kd.C k67 w A l.length l) (hc : l.length ≤ c) (hG : Gl w) (hn : n < 18446744073709551616) :
  Calls Tryz.prog 34 #[.agg #[.slice A l.length c, .bool dn, .int .i64 fu, .int .i64 fa, .int .i64 size, .int .u64 fr, .int .u64 (n : Int), .bool br], .int .u64 q] w fun e w' => ∃ A' c', e = .returned (.tuple #[.agg (lgc A' c' (kT ⟨l, dn, fu, fa, size, fr, (n : Int), br⟩ q).1).toArray, .int .i64 (kT ⟨l, dn, fu, fa, size, fr, (n : Int), br⟩ q).2])
   ∧ aA (Sep w w' [oJ A' c' (kT ⟨l, dn, fu, fa, size, fr, (n : Int), br⟩ q).1.l]) := by
 have HRp := aA.mk hr
 have HCp := aA.mk hc
 have HG := aA.mk hG
 clear hr hc hG
 obtain ⟨O, hO⟩ : ∃ O, O = kT ⟨l, dn, fu, fa, size, fr, (n : Int), br⟩ q := ⟨_, rfl⟩
 rw [← hO]
 have HO := aA.mk hO
 clear hO
 have H := aA.mk (Sep.start w)
 go_enter Tryz.func34, Tryz.ntmps34
 go_wp2_with (first
 |((with_reducible refine aP (N := 2) rfl ?_);
   refine bG rfl H (cs := [.slice A l.length c, .bool dn, .int .i64 fu, .int .i64 fa, .int .i64 size, .int .u64 fr, .int .u64 (n : Int), .bool br]) (t := 30) ?hr ?_;
   (case hr => first | (go_simp; done) | (go_simp; rfl));
   intro gm wd1 n_;
   simp only [Act.put, zA, zZ, zS];
   clear H;
   have H := n_;
   clear n_;
   have c_m := H.out.cell (g := gm) aJ)
 |((with_reducible refine aP (N := 3) rfl ?_);
   refine bG rfl H (cs := [.int .u64 q]) (t := 28) ?hr ?_;
   (case hr => first | (go_simp; done) | (go_simp; rfl));
   intro gt wd2 n_;
   simp only [Act.put, zA, zZ, zS];
   clear H c_m;
   have H := n_;
   clear n_;
   have c_t := H.out.cell (g := gt) aJ;
   have c_m := H.out.cell (g := gm) mem1)
 |((with_reducible refine aP (N := 4) rfl ?_);
   refine bG rfl H (cs := [.slice none 0 0, .bool false, .int .i64 0, .int .i64 0, .int .i64 0, .int .u64 0, .int .u64 0, .bool false]) (t := 30) ?hr ?_;
   (case hr => first | (go_simp; done) | (go_simp; rfl));
   intro gz wd3 n_;
   simp only [Act.put, zA, zZ, zS];
   clear H c_t c_m;
   have H := n_;
   clear n_;
   have c_z := H.out.cell (g := gz) aJ;
   have c_t := H.out.cell (g := gt) mem1;
   have c_m := H.out.cell (g := gm) mem2)
 |fail)
 by_cases hok : okL ⟨l, dn, fu, fa, size, fr, (n : Int), br⟩
 ·
  refine ((fP.calls A c l dn fu fa size fr (n : Int) br 0 _ (H.out.came HRp.out) HCp.out (by have h := yE ⟨l, dn, fu, fa, size, fr, (n : Int), br⟩; rw [if_pos hok] at h; exact h)).mono ?_)
  rintro e wd4 ⟨rfl, hb_⟩
  have n_ : aA (Sep w wd4 [box gz [.slice none 0 0, .bool false, .int .i64 0, .int .i64 0, .int .i64 0, .int .u64 0, .int .u64 0, .bool false] 30, box gt [.int .u64 q] 28, box gm [.slice A l.length c, .bool dn, .int .i64 fu, .int .i64 fa, .int .i64 size, .int .u64 fr, .int .u64 (n : Int), .bool br] 30]) := ⟨H.out.step hb_⟩
  clear H c_z c_t c_m
  have H := n_
  clear n_
  have c_z := H.out.cell (g := gz) aJ
  have c_t := H.out.cell (g := gt) mem1
  have c_m := H.out.cell (g := gm) mem2
  clear hb_
  have hlen : l.length ≤ 64 := kK hok.1
  have hs1 : 1 ≤ size := hok.2.1
  have hs2 : size ≤ 262144 := hok.2.2.1
  have hok1 : bF l = true := hok.1
  have SV := aA.mk hok1
  have hOV : O = uQ ⟨l, dn, fu, fa, size, fr, (n : Int), br⟩ q := by rw [HO.out, kT, if_pos hok]
  have HOV := aA.mk hOV
  clear hok hok1 HO hOV
  go_wp2_with fail
  refine ((OT A c l dn fu fa _ (H.out.came HRp.out) hlen).mono ?_)
  rintro e wd5 ⟨A3, c3, rfl, HJ⟩
  have n_ : aA (Sep w wd5 [row k67 67 (.slice A3 (l).length c3) l, box gz [.slice none 0 0, .bool false, .int .i64 0, .int .i64 0, .int .i64 0, .int .u64 0, .int .u64 0, .bool false] 30, box gt [.int .u64 q] 28, box gm [.slice A l.length c, .bool dn, .int .i64 fu, .int .i64 fa, .int .i64 size, .int .u64 fr, .int .u64 (n : Int), .bool br] 30]) := ⟨eY H.out HJ.out⟩
  clear H c_z c_t c_m
  have H := n_
  clear n_
  have c_z := H.out.cell (g := gz) mem1
  have c_t := H.out.cell (g := gt) mem2
  have c_m := H.out.cell (g := gm) mem3
  have z_m := H.out.frozen (g := gm) mem3
  clear HJ
  go_wp2_with (first
 |((with_reducible refine aN (t := 27) (p := 14) rfl ?_);
   refine aZ (rs1 := [row k67 67 (.slice A3 (l).length c3) l, box gz [.slice none 0 0, .bool false, .int .i64 0, .int .i64 0, .int .i64 0, .int .u64 0, .int .u64 0, .bool false] 30, box gt [.int .u64 q] 28, box gm [.slice A3 l.length c3, .bool dn, .int .i64 fu, .int .i64 fa, .int .i64 size, .int .u64 fr, .int .u64 (n : Int), .bool br] 30]) rfl (t := 27) (p := 14) rfl rfl ?hr (H1 := (Sep.dZ (Sep.dZ (Sep.dZ (Sep.dZ H.out 0 (.slice A3 l.length c3) rfl) 1 (.bool dn) rfl) 2 (.int .i64 fu) rfl) 3 (.int .i64 fa) rfl)) ?_;
   (case hr => first | (go_simp; done) | (go_simp; rfl));
   intro wd6 n_;
   clear H c_z c_t c_m z_m;
   have H := n_;
   clear n_;
   have c_z := H.out.cell (g := gz) mem1;
   have c_t := H.out.cell (g := gt) mem2;
   have c_m := H.out.cell (g := gm) mem3;
   have z_m := H.out.frozen (g := gm) mem3)
 |((with_reducible refine aP (N := 17) rfl ?_);
   refine bG rfl H (cs := [.slice A3 l.length c3, .bool dn, .int .i64 fu, .int .i64 fa, .int .i64 size, .int .u64 fr, .int .u64 (n : Int), .bool br]) (t := 134) ?hr ?_;
   (case hr => first | (go_simp; done) | (go_simp; rfl));
   intro gl wd7 n_;
   simp only [Act.put, zA, zZ, zS];
   clear H c_z c_t c_m z_m;
   have H := n_;
   clear n_;
   have c_l := H.out.cell (g := gl) aJ;
   have c_z := H.out.cell (g := gz) mem2;
   have c_t := H.out.cell (g := gt) mem3;
   have c_m := H.out.cell (g := gm) bK;
   have z_m := H.out.frozen (g := gm) bK)
 |((with_reducible refine aP (N := 6) rfl ?_);
   refine bG rfl H (cs := [.pointer none]) (t := 131) ?hr ?_;
   (case hr => first | (go_simp; done) | (go_simp; rfl));
   intro gv wd8 n_;
   simp only [Act.put, zA, zZ, zS];
   clear H c_l c_z c_t c_m z_m;
   have H := n_;
   clear n_;
   have c_v := H.out.cell (g := gv) aJ;
   have z_v := H.out.frozen (g := gv) aJ;
   have c_l := H.out.cell (g := gl) mem1;
   have c_z := H.out.cell (g := gz) mem3;
   have c_t := H.out.cell (g := gt) bK;
   have c_m := H.out.cell (g := gm) dJ;
   have z_m := H.out.frozen (g := gm) dJ)
 |((with_reducible refine aN (t := 131) (p := 6) rfl ?_);
   refine aZ (rs1 := [box gv [.pointer (some ⟨gl, 0, none⟩)] 131, box gl [.slice A3 l.length c3, .bool dn, .int .i64 fu, .int .i64 fa, .int .i64 size, .int .u64 fr, .int .u64 (n : Int), .bool br] 134, row k67 67 (.slice A3 (l).length c3) l, box gz [.slice none 0 0, .bool false, .int .i64 0, .int .i64 0, .int .i64 0, .int .u64 0, .int .u64 0, .bool false] 30, box gt [.int .u64 q] 28, box gm [.slice A3 l.length c3, .bool dn, .int .i64 fu, .int .i64 fa, .int .i64 size, .int .u64 fr, .int .u64 (n : Int), .bool br] 30]) rfl (t := 131) (p := 6) rfl rfl ?hr (H1 := (Sep.set0 H.out 0 (.pointer (some ⟨gl, 0, none⟩)) rfl)) ?_;
   (case hr => first | (go_simp; done) | (go_simp; rfl));
   intro wd9 n_;
   clear H c_v z_v c_l c_z c_t c_m z_m;
   have H := n_;
   clear n_;
   have c_v := H.out.cell (g := gv) aJ;
   have z_v := H.out.frozen (g := gv) aJ;
   have c_l := H.out.cell (g := gl) mem1;
   have c_z := H.out.cell (g := gz) mem3;
   have c_t := H.out.cell (g := gt) bK;
   have c_m := H.out.cell (g := gm) dJ;
   have z_m := H.out.frozen (g := gm) dJ)
 |fail)
  have hdo := yA (qcR w gl gm gt gv l dn fu fa size fr n br q A3 c3 SV.out (HG.out) hn hq) [box gz [.slice none 0 0, .bool false, .int .i64 0, .int .i64 0, .int .i64 0, .int .u64 0, .int .u64 0, .bool false] 30]
  rw [← HOV.out] at hdo
  refine (AV hdo (fun args w => by simp [go_sem]) A3 c3 _ ⟨(Sep.oV (Sep.oV (Sep.oV (Sep.gI (Sep.iP (Sep.kZ H.out))))))⟩).mono ?_
  rintro e FC ⟨A4, c4, rfl, H2⟩
  clear hdo
  have n_ : aA (Sep w FC [box gl [.slice A4 O.1.l.length c4, .bool O.1.dn, .int .i64 O.1.fu, .int .i64 O.1.fa, .int .i64 O.1.size, .int .u64 O.1.fr, .int .u64 O.1.nx, .bool O.1.br] 134, row k67 67 (.slice A4 (O.1.l).length c4) O.1.l, box gm [.slice A3 l.length c3, .bool dn, .int .i64 fu, .int .i64 fa, .int .i64 size, .int .u64 fr, .int .u64 (n : Int), .bool br] 30, box gt [.int .u64 q] 28, box gv [.pointer (some ⟨gl, 0, none⟩)] 131, box gz [.slice none 0 0, .bool false, .int .i64 0, .int .i64 0, .int .i64 0, .int .u64 0, .int .u64 0, .bool false] 30]) := ⟨H2.out⟩
  clear H c_v z_v c_l c_z c_t c_m z_m
  have H := n_
  clear n_
  have c_l := H.out.cell (g := gl) aJ
  have c_m := H.out.cell (g := gm) mem2
  have c_t := H.out.cell (g := gt) mem3
  have c_v := H.out.cell (g := gv) bK
  have c_z := H.out.cell (g := gz) dJ
  have z_z := H.out.frozen (g := gz) dJ
  clear H2
  simp only [lgc]
  go_wp2_with (first
 |((with_reducible refine aN (t := 30) (p := 4) rfl ?_);
   refine aZ (rs1 := [box gl [.slice A4 O.1.l.length c4, .bool O.1.dn, .int .i64 O.1.fu, .int .i64 O.1.fa, .int .i64 O.1.size, .int .u64 O.1.fr, .int .u64 O.1.nx, .bool O.1.br] 134, row k67 67 (.slice A4 (O.1.l).length c4) O.1.l, box gm [.slice A3 l.length c3, .bool dn, .int .i64 fu, .int .i64 fa, .int .i64 size, .int .u64 fr, .int .u64 (n : Int), .bool br] 30, box gt [.int .u64 q] 28, box gv [.pointer (some ⟨gl, 0, none⟩)] 131, box gz [.slice A4 O.1.l.length c4, .bool O.1.dn, .int .i64 O.1.fu, .int .i64 O.1.fa, .int .i64 O.1.size, .int .u64 O.1.fr, .int .u64 O.1.nx, .bool O.1.br] 30]) rfl (t := 30) (p := 4) rfl rfl ?hr (H1 := (Sep.fZ (Sep.fZ (Sep.fZ (Sep.fZ (Sep.fZ (Sep.fZ (Sep.fZ (Sep.fZ H.out 0 (.slice A4 O.1.l.length c4) rfl) 1 (.bool O.1.dn) rfl) 2 (.int .i64 O.1.fu) rfl) 3 (.int .i64 O.1.fa) rfl) 4 (.int .i64 O.1.size) rfl) 5 (.int .u64 O.1.fr) rfl) 6 (.int .u64 O.1.nx) rfl) 7 (.bool O.1.br) rfl)) ?_;
   (case hr => first | (go_simp; done) | (go_simp; rfl));
   intro MH n_;
   clear H c_l c_m c_t c_v c_z z_z;
   have H := n_;
   clear n_;
   have c_l := H.out.cell (g := gl) aJ;
   have c_m := H.out.cell (g := gm) mem2;
   have c_t := H.out.cell (g := gt) mem3;
   have c_v := H.out.cell (g := gv) bK;
   have c_z := H.out.cell (g := gz) dJ;
   have z_z := H.out.frozen (g := gz) dJ)
 |fail)
  refine bodyPost_ret (dB (rs := [.cell 4 30, .tmp 5]) rfl (by simp) (.cell gz 30 _ _ _ rfl (H.out.jK (g := gz) dJ) Tryz.underlying30 rfl info30 (.tmp .nil))) rfl ?_
  exact ⟨A4, c4, rfl, ⟨(Sep.dV (Sep.drop2 (Sep.gK (Sep.jO (Sep.rV H.out)))))⟩⟩
 ·
  refine ((fP.calls A c l dn fu fa size fr (n : Int) br 6 _ (H.out.came HRp.out) HCp.out (by have h := yE ⟨l, dn, fu, fa, size, fr, (n : Int), br⟩; rw [if_neg hok] at h; exact h)).mono ?_)
  rintro e DU ⟨rfl, hb_⟩
  have n_ : aA (Sep w DU [box gz [.slice none 0 0, .bool false, .int .i64 0, .int .i64 0, .int .i64 0, .int .u64 0, .int .u64 0, .bool false] 30, box gt [.int .u64 q] 28, box gm [.slice A l.length c, .bool dn, .int .i64 fu, .int .i64 fa, .int .i64 size, .int .u64 fr, .int .u64 (n : Int), .bool br] 30]) := ⟨H.out.step hb_⟩
  clear H c_z c_t c_m
  have H := n_
  clear n_
  have c_z := H.out.cell (g := gz) aJ
  have c_t := H.out.cell (g := gt) mem1
  have c_m := H.out.cell (g := gm) mem2
  clear hb_
  have hOV : O = (Lz, 6) := by rw [HO.out, kT, if_neg hok]
  clear HO hok
  clear c_z c_t c_m
  have c_z := H.out.cell (g := gz) aJ
  have z_z := H.out.frozen (g := gz) aJ
  have c_t := H.out.cell (g := gt) mem1
  have c_m := H.out.cell (g := gm) mem2
  go_wp2_with (first
 |((with_reducible refine aN (t := 30) (p := 4) rfl ?_);
   refine aZ (rs1 := [box gz [.slice none 0 0, .bool false, .int .i64 0, .int .i64 0, .int .i64 0, .int .u64 0, .int .u64 0, .bool false] 30, box gt [.int .u64 q] 28, box gm [.slice A l.length c, .bool dn, .int .i64 fu, .int .i64 fa, .int .i64 size, .int .u64 fr, .int .u64 (n : Int), .bool br] 30]) rfl (t := 30) (p := 4) rfl rfl ?hr (H1 := (Sep.set0 (Sep.set0 (Sep.set0 (Sep.set0 (Sep.set0 (Sep.set0 (Sep.set0 (Sep.set0 H.out 0 (.slice none 0 0) rfl) 1 (.bool false) rfl) 2 (.int .i64 0) rfl) 3 (.int .i64 0) rfl) 4 (.int .i64 0) rfl) 5 (.int .u64 0) rfl) 6 (.int .u64 0) rfl) 7 (.bool false) rfl)) ?_;
   (case hr => first | (go_simp; done) | (go_simp; rfl));
   intro KI n_;
   clear H c_z z_z c_t c_m;
   have H := n_;
   clear n_;
   have c_z := H.out.cell (g := gz) aJ;
   have z_z := H.out.frozen (g := gz) aJ;
   have c_t := H.out.cell (g := gt) mem1;
   have c_m := H.out.cell (g := gm) mem2)
 |fail)
  refine bodyPost_ret (dB (rs := [.cell 4 30, .tmp 5]) rfl (by simp) (.cell gz 30 _ _ _ rfl (H.out.jK (g := gz) aJ) Tryz.underlying30 rfl info30 (.tmp .nil))) rfl ?_
  subst hOV
  exact ⟨none, 0, rfl, ⟨Sep.eG (Sep.dV (Sep.drop1 (Sep.drop2 H.out)))⟩⟩
theorem TA (A : Option Addr) (c : Nat) (L : Lg) (q : Int) (hq : 0 ≤ q) (w : World) (hr : Kd.C k67 w A L.l.length L.l) (hc : L.l.length ≤ c) (hG : Gl w) (h0 : 0 ≤ L.nx) (hn : L.nx < 18446744073709551616) :
  Calls Tryz.prog 34 #[.agg (lgc A c L).toArray, .int .u64 q] w fun e w' => ∃ A' c', e = .returned (.tuple #[.agg (lgc A' c' (kT L q).1).toArray, .int .i64 (kT L q).2])
   ∧ aA (Sep w w' [oJ A' c' (kT L q).1.l]) := by
 obtain ⟨l, dn, fu, fa, size, fr, nx, br⟩ := L
 obtain ⟨n, hnn⟩ := Int.eq_ofNat_of_zero_le h0
 simp only at hnn
 subst hnn
 simp only at hn
 exact qam A c l dn fu fa size fr n br q hq w hr hc hG (by omega)
open Classical in
noncomputable def TB (L : Lg) : List S62 × Int := if okL L then (if L.br = true then ([], 6) else if L.dn = true then ([], 17) else (bM (findF L.l).recs (dL (aK L.l)), 0)) else ([], 6)
structure Qu where
 L : Lg
 es : List S41
 most : Int
def qc (A : Option Addr) (c : Nat) (B : Option Addr) (d : Nat) (Q : Qu) : List Value := lgc A c Q.L ++ [.slice B Q.es.length d, .int .i64 Q.most]
abbrev qH (B : Option Addr) (d : Nat) (l : List S41) : Res := row k41 41 (.slice B l.length d) l
theorem qan {W : World} {base : Nat} {ok1 ok2 : Nat → Prop} {x : S41} {cs : List Value} (h : k41.M W 0 ok1 x cs) : k41.M W base ok2 x cs := by
 obtain rfl := MP h
 exact vZ _ _ _ _
theorem rF : Flat k41 := qan
theorem info33 : (Tryz.prog.info? 33).map (fun i => i.size) = some 10 := by kernel_rfl
theorem yS : (Tryz.prog.info? 41).map (fun i => i.size) = some 3 := by kernel_rfl
theorem sN (n : Int) (w : World) : Calls Tryz.prog 54 #[.bool true, .int .i64 n] w fun e w' => e = .returned (.tuple #[]) ∧ w' = w := by
 go_enter Tryz.func54, Tryz.ntmps54
 go_wp2
 go_end0
 exact ⟨rfl, rfl⟩
theorem vJ (n : Int) (w : World) : Calls Tryz.prog 54 #[.bool false, .int .i64 n] w fun e w' => e = .panicked [{ v := .iface 34 (.int .i64 n), recovered := false }] ∧ w' = w := by
 go_enter Tryz.func54, Tryz.ntmps54
 go_wp2
 exact ⟨rfl, rfl, rfl⟩
set_option maxHeartbeats 4000000 in
theorem qeq {b w : World} {rs : List Res} (gl : Nat) (A : Option Addr) (c : Nat) (B : Option Addr) (d : Nat) (Q : Qu) (A1 : Option Addr) (c1 : Nat) (L1 : Lg) (H0 : aA (Sep b w (box gl (qc A c B d Q) 101 :: rs))) :
  Calls Tryz.prog 55 #[.pointer (some ⟨gl, 0, none⟩), .agg (lgc A1 c1 L1).toArray, .int .i64 0] w fun e w' => e = .returned (.tuple #[]) ∧ aA (Sep b w' (box gl (qc A1 c1 B d ⟨L1, Q.es, Q.most⟩) 101 :: rs)) := by
 have H : aA (Sep b w (box gl [.slice A Q.L.l.length c, .bool Q.L.dn, .int .i64 Q.L.fu, .int .i64 Q.L.fa, .int .i64 Q.L.size, .int .u64 Q.L.fr, .int .u64 Q.L.nx, .bool Q.L.br, .slice B Q.es.length d, .int .i64 Q.most] 101 :: rs)) := H0
 clear H0
 simp only [lgc]
 have c_l := H.out.cell (g := gl) aJ
 have z_l := H.out.frozen (g := gl) aJ
 go_enter Tryz.func55, Tryz.ntmps55
 go_wp2_with (first
 |((with_reducible refine aP (N := 4) rfl ?_);
   refine bG rfl H (cs := [.slice A1 L1.l.length c1, .bool L1.dn, .int .i64 L1.fu, .int .i64 L1.fa, .int .i64 L1.size, .int .u64 L1.fr, .int .u64 L1.nx, .bool L1.br]) (t := 30) ?hr ?_;
   (case hr => first | (go_simp; done) | (go_simp; rfl));
   intro gd wd1 n_;
   simp only [Act.put, zA, zZ, zS];
   clear H c_l z_l;
   have H := n_;
   clear n_;
   have c_d := H.out.cell (g := gd) aJ;
   have z_d := H.out.frozen (g := gd) aJ;
   have c_l := H.out.cell (g := gl) mem1;
   have z_l := H.out.frozen (g := gl) mem1)
 |((with_reducible refine aN (t := 30) (p := 10) rfl ?_);
   refine aZ (rs1 := (box gd [.slice A1 L1.l.length c1, .bool L1.dn, .int .i64 L1.fu, .int .i64 L1.fa, .int .i64 L1.size, .int .u64 L1.fr, .int .u64 L1.nx, .bool L1.br] 30 :: box gl [.slice A1 L1.l.length c1, .bool L1.dn, .int .i64 L1.fu, .int .i64 L1.fa, .int .i64 L1.size, .int .u64 L1.fr, .int .u64 L1.nx, .bool L1.br, .slice B Q.es.length d, .int .i64 Q.most] 101 :: rs)) rfl (t := 30) (p := 10) rfl rfl ?hr (H1 := (Sep.set1 (Sep.set1 (Sep.set1 (Sep.set1 (Sep.set1 (Sep.set1 (Sep.set1 (Sep.set1 H.out 0 (.slice A1 L1.l.length c1) rfl) 1 (.bool L1.dn) rfl) 2 (.int .i64 L1.fu) rfl) 3 (.int .i64 L1.fa) rfl) 4 (.int .i64 L1.size) rfl) 5 (.int .u64 L1.fr) rfl) 6 (.int .u64 L1.nx) rfl) 7 (.bool L1.br) rfl)) ?_;
   (case hr => first | (go_simp; done) | (go_simp; rfl));
   intro wd2 n_;
   clear H c_d z_d c_l z_l;
   have H := n_;
   clear n_;
   have c_d := H.out.cell (g := gd) aJ;
   have z_d := H.out.frozen (g := gd) aJ;
   have c_l := H.out.cell (g := gl) mem1;
   have z_l := H.out.frozen (g := gl) mem1)
 |fail)
 refine (sN 0 _).mono ?_
 rintro e w_ ⟨rfl, rfl⟩
 go_wp2_with fail
 go_end0
 exact ⟨rfl, ⟨(Sep.dV H.out)⟩⟩
set_option maxHeartbeats 4000000 in
theorem qer {b w : World} {rs : List Res} (gl : Nat) (A : Option Addr) (c : Nat) (B : Option Addr) (d : Nat) (Q : Qu) (A1 : Option Addr) (c1 : Nat) (L1 : Lg) (n : Int) (hn : n ≠ 0) (H0 : aA (Sep b w (box gl (qc A c B d Q) 101 :: rs))) :
  Calls Tryz.prog 55 #[.pointer (some ⟨gl, 0, none⟩), .agg (lgc A1 c1 L1).toArray, .int .i64 n] w fun e w' => e = .panicked [{ v := .iface 34 (.int .i64 n), recovered := false }] ∧ aA (Sep b w' (box gl (qc A1 c1 B d ⟨L1, Q.es, Q.most⟩) 101 :: rs)) := by
 have H : aA (Sep b w (box gl [.slice A Q.L.l.length c, .bool Q.L.dn, .int .i64 Q.L.fu, .int .i64 Q.L.fa, .int .i64 Q.L.size, .int .u64 Q.L.fr, .int .u64 Q.L.nx, .bool Q.L.br, .slice B Q.es.length d, .int .i64 Q.most] 101 :: rs)) := H0
 clear H0
 simp only [lgc]
 have c_l := H.out.cell (g := gl) aJ
 have z_l := H.out.frozen (g := gl) aJ
 go_enter Tryz.func55, Tryz.ntmps55
 have hnb : (n == 0) = false := by simpa using hn
 go_wp2_with (first
 |((with_reducible refine aP (N := 4) rfl ?_);
   refine bG rfl H (cs := [.slice A1 L1.l.length c1, .bool L1.dn, .int .i64 L1.fu, .int .i64 L1.fa, .int .i64 L1.size, .int .u64 L1.fr, .int .u64 L1.nx, .bool L1.br]) (t := 30) ?hr ?_;
   (case hr => first | (go_simp; done) | (go_simp; rfl));
   intro gd wd3 n_;
   simp only [Act.put, zA, zZ, zS];
   clear H c_l z_l;
   have H := n_;
   clear n_;
   have c_d := H.out.cell (g := gd) aJ;
   have z_d := H.out.frozen (g := gd) aJ;
   have c_l := H.out.cell (g := gl) mem1;
   have z_l := H.out.frozen (g := gl) mem1)
 |((with_reducible refine aN (t := 30) (p := 10) rfl ?_);
   refine aZ (rs1 := (box gd [.slice A1 L1.l.length c1, .bool L1.dn, .int .i64 L1.fu, .int .i64 L1.fa, .int .i64 L1.size, .int .u64 L1.fr, .int .u64 L1.nx, .bool L1.br] 30 :: box gl [.slice A1 L1.l.length c1, .bool L1.dn, .int .i64 L1.fu, .int .i64 L1.fa, .int .i64 L1.size, .int .u64 L1.fr, .int .u64 L1.nx, .bool L1.br, .slice B Q.es.length d, .int .i64 Q.most] 101 :: rs)) rfl (t := 30) (p := 10) rfl rfl ?hr (H1 := (Sep.set1 (Sep.set1 (Sep.set1 (Sep.set1 (Sep.set1 (Sep.set1 (Sep.set1 (Sep.set1 H.out 0 (.slice A1 L1.l.length c1) rfl) 1 (.bool L1.dn) rfl) 2 (.int .i64 L1.fu) rfl) 3 (.int .i64 L1.fa) rfl) 4 (.int .i64 L1.size) rfl) 5 (.int .u64 L1.fr) rfl) 6 (.int .u64 L1.nx) rfl) 7 (.bool L1.br) rfl)) ?_;
   (case hr => first | (go_simp; done) | (go_simp; rfl));
   intro wd4 n_;
   clear H c_d z_d c_l z_l;
   have H := n_;
   clear n_;
   have c_d := H.out.cell (g := gd) aJ;
   have z_d := H.out.frozen (g := gd) aJ;
   have c_l := H.out.cell (g := gl) mem1;
   have z_l := H.out.frozen (g := gl) mem1)
 |fail)
 refine (vJ n _).mono ?_
 rintro e w_ ⟨rfl, rfl⟩
 exact ⟨rfl, rfl, ⟨(Sep.dV H.out)⟩⟩
theorem log_any {b w : World} {rs : List Res} (gl : Nat) (A : Option Addr) (c : Nat) (B : Option Addr) (d : Nat) (Q : Qu) (A1 : Option Addr) (c1 : Nat) (L1 : Lg) (n : Int) (H0 : aA (Sep b w (box gl (qc A c B d Q) 101 :: rs))) :
  Calls Tryz.prog 55 #[.pointer (some ⟨gl, 0, none⟩), .agg (lgc A1 c1 L1).toArray, .int .i64 n] w fun e w' => Ends n e ∧ aA (Sep b w' (box gl (qc A1 c1 B d ⟨L1, Q.es, Q.most⟩) 101 :: rs)) := by
 by_cases hn : n = 0
 ·subst hn
  exact (qeq gl A c B d Q A1 c1 L1 H0).mono fun e w' h => ⟨.inl ⟨rfl, h.1⟩, h.2⟩
 ·exact (qer gl A c B d Q A1 c1 L1 n hn H0).mono fun e w' h => ⟨.inr ⟨hn, h.1⟩, h.2⟩
def tJ.f (l0 : List (S41)) : Option (List (S41)) := if l0.length < 4398046511104 then some l0 else none
set_option maxHeartbeats 1600000 in
theorem tJ.calls (A0 : Option Addr) (c0 : Nat) (l0 : List (S41)) (r : List (S41)) (w : World) (hr0 : Kd.C k41 w A0 l0.length l0) (hc0 : l0.length ≤ c0) (h : tJ.f l0 = some r) :
  Calls Tryz.prog 100 #[.slice A0 l0.length c0] w fun e w' => ∃ v0_ : Value, e = .returned v0_ ∧ Kd.R k41 41 w' w.heap.size (fun _ => True) v0_ r ∧ Below w.heap.size w w' := by
 unfold tJ.f at h
 split at h
 case isFalse => cases h
 rename_i hn
 have HE := aA.mk (Option.some.inj h)
 clear h
 have HR := aA.mk hr0
 clear hr0
 have hnil : ∀ (a : Option Addr) (n c : Nat) (w : World), (binOp .eql 31 (.slice a n c) (.slice none 0 0)).run Tryz.prog w = .ok (.bool a.isNone) w := fun a n c w => by
  simp only [binOp]
  simp [Op.equal, Op.maxDepth, Lib.run_equalIn_slice_nil w 9999 31 41 a n c 0 0 Tryz.underlying31]
 cases A0 with
 | none =>
  have hl : l0 = [] := by
   cases l0 with
   | nil => rfl
   | cons x s => obtain ⟨ad, h, _⟩ := HR.out.2.2 (by simp); cases h
  go_enter Tryz.func100, Tryz.ntmps100
  go_wp2
  go_ret
  exact ⟨_, rfl, by rw [← HE.out, hl]; exact Kd.zF _ _ _ _ _, Below.refl _ _⟩
 | some ad =>
  go_enter Tryz.func100, Tryz.ntmps100
  go_wp2_with (first
 |((with_reducible refine aP (N := 5) rfl ?_);
   refine Kd.qdy k41 _ 41 ?hg (N := 5) ?hd (xs := ([] : List (S41))) (inner := []) (ok := fun _ => True) (okp := fun _ => True) ?hr ?hp (fun _ hk => hk) trivial (Below.refl _ _) (Nat.le_refl _) (by simp) ?_;
   (case hd => rfl); (case hg => rfl); (case hr => first | (go_simp; done) | (go_simp; rfl)); (case hp => exact (fM.none _ _));
   intro v5 w5 ho hb hg_ qa3; clear hg_ qa3; have HO := aA.mk ho; have HB := aA.mk hb; clear ho hb)
 |((with_reducible refine gY (b := .append) (xs := #[.tmp 5, .tmp 6]) rfl ?_); at_builtin;
   refine Kd.uM k41 (w0 := w) w.heap.size rfl (.tmp 5) (.tmp 6) 31 41 (.agg #[(.int .u64 0), (.string ⟨#[]⟩), (.bool false)]) 32 rfl Tryz.underlying31 zV rfl (by decide) (by omega) v5 [] l0 _ _ _ (fun _ => True) (fun _ => False) rfl rfl ?aO ?aR (fun _ _ h => h) (fun _ h => h.elim) ?aF ?aB ?aS ?aL ?_;
   (case aR => exact Kd.fC HR.out HB.out); (case aB => exact HB.out); (case aF => exact fun _ _ => trivial); (case aO => exact HO.out); (case aS => exact HB.out.size); (case aL => simp only [List.length_nil]; omega);
   intro v7 w9 ho hb hg hat; clear hg hat; have HO2 := aA.mk ho; have HB2 := aA.mk hb; clear ho hb))
  go_ret
  exact ⟨_, rfl, by rw [← HE.out]; exact HO2.out, HB2.out⟩
theorem qbG (A : Option Addr) (c : Nat) (l : List S41) (w : World) (hr : Kd.C k41 w A l.length l) (hc : l.length ≤ c) (hl : l.length ≤ 1024) :
  Calls Tryz.prog 100 #[.slice A l.length c] w fun e w' => ∃ A' c', e = .returned (.slice A' l.length c') ∧ aA (Sep w w' [qH A' c' l]) := by
 refine (tJ.calls A c l l w hr hc (by rw [tJ.f, if_pos (by omega)])).mono ?_
 rintro e w' ⟨v, rfl, ho, hb⟩
 obtain ⟨A1, c1, rfl⟩ := Kd.dQ ho
 exact ⟨A1, c1, rfl, ⟨(Sep.start w).iY hb ho rF⟩⟩
theorem qbH (A : Option Addr) (c : Nat) (l : List S67) (w : World) (hr : Kd.C k67 w A l.length l) (hc : l.length ≤ c) (hl : l.length ≤ 64) :
  Calls Tryz.prog 63 #[.slice A l.length c] w fun e w' => ∃ A' c', e = .returned (.slice A' l.length c') ∧ aA (Sep w w' [oJ A' c' l]) := by
 refine (pV.calls A c l l w hr hc (by rw [pV.f, if_pos (by omega)])).mono ?_
 rintro e w' ⟨v, rfl, ho, hb⟩
 obtain ⟨A1, c1, rfl⟩ := Kd.dQ ho
 exact ⟨A1, c1, rfl, ⟨(Sep.start w).iY hb ho lJ⟩⟩
end Go.Proofs.U
namespace Go.Proofs.UE
open Go.Proofs.U Go.RowKit Go.Proofs.YW.PrintWords Go.Proofs.YW.PrintLast Go.Proofs.YW.PrintMore Go.Proofs.Sp Go.Proofs.fG
def cells3 (x : S41) : List Value := [.int .u64 x.f0, .string x.f1, .bool x.f2]
def cellsOf (l : List S41) : List Value := l.flatMap cells3
theorem bZ (x : S41) (l : List S41) : cellsOf (x :: l) = .int .u64 x.f0 :: .string x.f1 :: .bool x.f2 :: cellsOf l := rfl
theorem pW (a b : List S41) : cellsOf (a ++ b) = cellsOf a ++ cellsOf b := by simp [cellsOf]
theorem cellsOf_length : ∀ l : List S41, (cellsOf l).length = l.length * 3
 | [] => rfl
 | x :: l => by rw [bZ]; simp only [List.length_cons]; rw [cellsOf_length l]; omega
theorem jU : ∀ (l : List S41) (i : Nat), cellsOf (l.take i) = (cellsOf l).take (i * 3)
 | [], i => by simp [cellsOf]
 | x :: l, 0 => by simp [cellsOf]
 | x :: l, i + 1 => by
  rw [List.take_succ_cons, bZ, bZ, jU l i, show (i + 1) * 3 = i * 3 + 1 + 1 + 1 by omega]
  simp only [List.take_succ_cons]
theorem lC : ∀ (l : List S41) (i : Nat), cellsOf (l.drop i) = (cellsOf l).drop (i * 3)
 | [], i => by simp [cellsOf]
 | x :: l, 0 => by simp
 | x :: l, i + 1 => by
  rw [List.drop_succ_cons, bZ, lC l i, show (i + 1) * 3 = i * 3 + 1 + 1 + 1 by omega]
  simp only [List.drop_succ_cons]
theorem jV : ∀ (l : List S41) (i : Nat) (x : S41) (u : ByteArray), l[i]? = some x → (cellsOf l).set (i * 3 + 1) (.string u) = cellsOf (l.set i ⟨x.f0, u, x.f2⟩)
 | [], i, x, u, h => by simp at h
 | y :: l, 0, x, u, h => by
  obtain rfl : y = x := by simpa using h
  simp [bZ]
 | y :: l, i + 1, x, u, h => by
  show _ = cellsOf (y :: l.set i _)
  rw [bZ, bZ, ← jV l i x u (by simpa using h), show (i + 1) * 3 + 1 = i * 3 + 1 + 1 + 1 + 1 by omega]
  simp only [zS]
theorem jI : ∀ (l : List S41) (i : Nat) (x : S41) (u : Bool), l[i]? = some x → (cellsOf l).set (i * 3 + 2) (.bool u) = cellsOf (l.set i ⟨x.f0, x.f1, u⟩)
 | [], i, x, u, h => by simp at h
 | y :: l, 0, x, u, h => by
  obtain rfl : y = x := by simpa using h
  simp [bZ]
 | y :: l, i + 1, x, u, h => by
  show _ = cellsOf (y :: l.set i _)
  rw [bZ, bZ, ← jI l i x u (by simpa using h), show (i + 1) * 3 + 2 = i * 3 + 2 + 1 + 1 + 1 by omega]
  simp only [zS]
theorem iZ : ∀ (l : List S41) (i : Nat) (x : S41), l[i]? = some x → (cellsOf l)[i * 3]? = some (.int .u64 x.f0) ∧ (cellsOf l)[i * 3 + 1]? = some (.string x.f1) ∧ (cellsOf l)[i * 3 + 2]? = some (.bool x.f2)
 | [], i, x, h => by simp at h
 | y :: l, 0, x, h => by
  obtain rfl : y = x := by simpa using h
  simp [bZ]
 | y :: l, i + 1, x, h => by
  have ih := iZ l i x (by simpa using h)
  rw [bZ, show (i + 1) * 3 = i * 3 + 1 + 1 + 1 by omega]
  simp only [List.getElem?_cons_succ]
  exact ih
theorem qU (l : List S41) : ∀ u ∈ cellsOf l, u.oneCell' = true := by
 intro u hu
 simp only [cellsOf, List.mem_flatMap, cells3] at hu
 obtain ⟨x, _, hx⟩ := hu
 simp only [List.mem_cons, List.not_mem_nil, or_false] at hx
 rcases hx with rfl | rfl | rfl <;> rfl
theorem add_plain' (g k j : Nat) : (⟨g, k, none⟩ : Addr).add j = ⟨g, k + j, none⟩ := by unfold Addr.add; split <;> simp_all
theorem zY (w : World) (base : Nat) (ok : Nat → Prop) : ∀ l : List S41, fM (k41.M w base ok) 3 l (cellsOf l) := by
 intro l
 refine ⟨cellsOf_length l, fun j p hj => ?_⟩
 rw [← lC, show ((3 : Nat)) = 1 * 3 from rfl, ← jU]
 have hlt : j < l.length := (List.getElem?_eq_some_iff.1 hj).1
 have e : (l.drop j).take 1 = [p] := by
  rw [List.drop_eq_getElem_cons hlt]
  have := (List.getElem?_eq_some_iff.1 hj).2
  simp [this]
 rw [e]
 exact vZ w base ok p
theorem AA {w : World} {base : Nat} {ok : Nat → Prop} : ∀ {l : List S41} {cs : List Value}, fM (k41.M w base ok) 3 l cs → cs = cellsOf l := by
 intro l
 induction l with
 | nil =>
  intro cs h
  have := h.1
  simp at this
  rw [this]; rfl
 | cons x l ih =>
  intro cs h
  have h0 := MP (h.2 0 x rfl)
  simp only [Nat.zero_mul, List.drop_zero] at h0
  have hl := h.1
  simp only [List.length_cons] at hl
  have h1 : fM (k41.M w base ok) 3 l (cs.drop 3) := by
   refine ⟨by rw [List.length_drop]; omega, fun j p hj => ?_⟩
   have := h.2 (j + 1) p (by simpa using hj)
   rw [List.drop_drop, show 3 + j * 3 = (j + 1) * 3 by omega]
   exact this
  rw [bZ, ← ih h1]
  have e : cs = cs.take 3 ++ cs.drop 3 := (List.take_append_drop 3 cs).symm
  rw [h0] at e
  exact e
theorem sU {w : World} {base : Nat} {ok : Nat → Prop} {v : Value} {l : List S41} (h : Kd.R k41 41 w base ok v l) : w.ownsRow base 41 3 v l.length (cellsOf l) := by
 obtain ⟨_, inner, ho, hr⟩ := h
 rw [← AA hr]
 exact ho
theorem oL {w : World} {base : Nat} {v : Value} {l : List S41} (h : w.ownsRow base 41 3 v l.length (cellsOf l)) : Kd.R k41 41 w base (fun _ => True) v l :=
 ⟨fun _ _ => trivial, cellsOf l, h, zY _ _ _ l⟩
theorem lW {w : World} {base : Nat} {ok : Nat → Prop} {A : Option Addr} {n c : Nat} {l : List S41} (h : Kd.R k41 41 w base ok (.slice A n c) l) (hne : 0 < l.length) :
  ∃ g cur, A = some ⟨g, 0, none⟩ ∧ n = l.length ∧ base ≤ g ∧ w.heap[g]? = some (.cells cur 41 (0, 0)) ∧ l.length ≤ c ∧ c ≤ maxLen ∧ cur.size = c * 3 ∧ cur.toList.take (l.length * 3) = cellsOf l := by
 obtain ⟨_, h2 | ⟨g, cap, cur, he, hb, hh, h3, h4, h5, h6⟩⟩ := sU h
 ·omega
 ·injection he with e1 e2 e3
  subst e1 e2 e3
  exact ⟨g, cur, rfl, rfl, hb, hh, h3, h4, h5, h6⟩
theorem kC {w : World} {g : Nat} {cur : Array Value} {l : List S41} {j : Nat} {u : Value} (hh : w.heap[g]? = some (.cells cur 41 (0, 0))) (h6 : cur.toList.take (l.length * 3) = cellsOf l) (hj : (cellsOf l)[j]? = some u) :
  w.cell? ⟨g, j, none⟩ = some u := by
 have hlt : j < l.length * 3 := by
  have := (List.getElem?_eq_some_iff.1 hj).1
  rwa [cellsOf_length] at this
 rw [aG hh]
 rw [← h6, List.getElem?_take_of_lt hlt] at hj
 rw [← hj]
 simp
theorem zG {w : World} {base g c j : Nat} {l l' : List S41} {u : Value} (h : Kd.R k41 41 w base (fun _ => True) (.slice (some ⟨g, 0, none⟩) l.length c) l) (hl : l'.length = l.length) (he : (cellsOf l).set j u = cellsOf l') (hj : j < l.length * 3) :
  Kd.R k41 41 (w.setCell ⟨g, j, none⟩ u) base (fun _ => True) (.slice (some ⟨g, 0, none⟩) l'.length c) l' := by
 obtain ⟨g', cur, hg, _, hb, hh, h3, h4, h5, h6⟩ := lW h (by omega)
 injection hg with hg
 injection hg with hg
 subst hg
 refine oL ⟨by rw [cellsOf_length], .inr ⟨g, c, cur.setIfInBounds j u, rfl, hb, CY hh j u, by omega, h4, by simpa using h5, ?_⟩⟩
 rw [← he, ← h6, hl]
 simp [List.take_set]
theorem QD : ∃ i0, Tryz.prog.info? 41 = some i0 ∧ i0.zero = some (.agg #[(.int .u64 0), (.string ⟨#[]⟩), (.bool false)]) ∧ i0.size = 3 ∧ i0.bytes = 32 := by
 obtain ⟨i0, hi, he⟩ := Option.map_eq_some_iff.1 zV
 simp only [Prod.mk.injEq] at he
 exact ⟨i0, hi, he⟩
theorem qes (w : World) : (zeroValue 41).run Tryz.prog w = .ok (.agg #[.int .u64 0, .string ⟨#[]⟩, .bool false]) w := by kernel_rfl
theorem TD (w : World) (ty g o c : Nat) (hc : ∀ j, j < 3 → (w.cell? ⟨g, o + j, none⟩).isSome = true) (hf : ∀ j, j < 3 → w.frozen? ⟨g, o + j, none⟩ = false) :
  (Builtin.clear_ #[31] ty #[.slice (some ⟨g, o, none⟩) 1 c]).run Tryz.prog w = .ok (.tuple #[]) (w.setCells g o [.int .u64 0, .string ⟨#[]⟩, .bool false]) := by
 have hzc : (Builtin.zeroCells (Value.agg #[.int .u64 0, .string ⟨#[]⟩, .bool false]).cells 1).toList = [.int .u64 0, .string ⟨#[]⟩, .bool false] := by kernel_rfl
 have hst := run_storeCells_cells (P := Tryz.prog) g o [.int .u64 0, .string ⟨#[]⟩, .bool false] 0 w (by simpa using hc) (by simpa using hf) (by intro v hv'; simp at hv'; rcases hv' with rfl | rfl | rfl <;> rfl)
 simp only [Nat.add_zero] at hst
 simp [Builtin.clear_, run_underlying Tryz.underlying31, qes, hzc, hst]
set_option maxHeartbeats 8000000 in
theorem AB (w : World) (base : Nat) (l : List S41) (g c : Nat) (i m : Nat) (hl : l.length = i + m + 1) (hn : l.length ≤ 1024) (ho : Kd.R k41 41 w base (fun _ => True) (.slice (some ⟨g, 0, none⟩) l.length c) l) :
  Calls Tryz.prog 62 #[.slice (some ⟨g, 0, none⟩) (i + m + 1) c, .int .i64 (i : Int), .int .i64 ((i : Int) + 1)] w fun e w4 => e = .returned (.slice (some ⟨g, 0, none⟩) (i + m) c) ∧
   Kd.R k41 41 w4 base (fun _ => True) (.slice (some ⟨g, 0, none⟩) (i + m) c) (l.take i ++ l.drop (i + 1)) ∧ Below base w w4 ∧ ∀ k, k ≠ g → w4.heap[k]? = w.heap[k]? := by
 obtain ⟨g', cur, e, _, hg, hh, h3, h4, h5, h6⟩ := lW ho (by omega)
 injection e with e
 injection e with e
 subst e
 obtain ⟨i0, hi0, hz0, hz1, hz2⟩ := QD
 have hic : i + m + 1 ≤ c := by omega
 have him : i + m + 1 ≤ 1024 := by omega
 have hi7 : i ≤ c := by omega
 have hcm : c ≤ 9223372036854775807 := by unfold maxLen at h4; omega
 have hne : ((i : Int) == (i : Int) + 1) = false := by simp; omega
 have HL := aA.mk hl
 have HI0 := aA.mk hi0
 have HZ1 := aA.mk hz1
 have HH := aA.mk hh
 have H6 := aA.mk h6
 have HG := aA.mk hg
 have H5 := aA.mk h5
 have hnews : aA ((cellsOf (l.drop (i + 1))).length = m * 3) := ⟨by rw [cellsOf_length, List.length_drop]; omega⟩
 have hspare : aA (∀ j, j < (cellsOf (l.drop (i + 1))).length → (w.drew.cell? ⟨g, 0 + i * 3 + j, none⟩).isSome = true ∧ w.drew.frozen? ⟨g, 0 + i * 3 + j, none⟩ = false) := ⟨fun j hj => by
  rw [hnews.out] at hj
  refine ⟨?_, aC (bI hh) _⟩
  rw [aG (bI hh), Array.getElem?_eq_getElem (by omega)]
  rfl⟩
 have hcell : aA (∀ j u, (cellsOf (l.drop (i + 1)))[j]? = some u → w.drew.cell? ⟨g, (i + 1) * 3 + j, none⟩ = some u) := ⟨fun j u hu => by
  rw [lC, List.getElem?_drop] at hu
  exact kC (bI hh) h6 hu⟩
 clear hl hi0 hz0 hz1 hz2 hh h6 hg h5 h4 h3 ho hn
 have hend : ∀ W : World, W = (w.drew.setCells g (0 + i * 3) (cellsOf (l.drop (i + 1)))) → aA ((∀ j, j < 3 → (W.cell? ⟨g, (i + m) * 3 + j, none⟩).isSome = true) ∧ (∀ j, j < 3 → W.frozen? ⟨g, (i + m) * 3 + j, none⟩ = false) ∧
   Kd.R k41 41 (W.setCells g ((i + m) * 3) [.int .u64 0, .string ⟨#[]⟩, .bool false]) base (fun _ => True) (.slice (some ⟨g, 0, none⟩) (i + m) c) (l.take i ++ l.drop (i + 1)) ∧ Below base w (W.setCells g ((i + m) * 3) [.int .u64 0, .string ⟨#[]⟩, .bool false]) ∧
   ∀ k, k ≠ g → (W.setCells g ((i + m) * 3) [.int .u64 0, .string ⟨#[]⟩, .bool false]).heap[k]? = w.heap[k]?) := by
  rintro W rfl
  obtain ⟨qd8, hc1, hs1, hl1⟩ := kW g 41 (cellsOf (l.drop (i + 1))) (0 + i * 3) w.drew cur (bI HH.out)
  obtain ⟨qd9, hc2, hs2, hl2⟩ := kW g 41 [.int .u64 0, .string ⟨#[]⟩, .bool false] ((i + m) * 3) _ qd8 hc1
  have hsz : cur.size = c * 3 := H5.out
  have hct : cur.toList.length = c * 3 := by simpa using hsz
  refine ⟨fun j hj => ?_, fun j hj => aC hc1 _, ?_, ?_, fun k hk => ?_⟩
  ·rw [aG hc1, Array.getElem?_eq_getElem (by omega)]
   rfl
  ·have hlen : (l.take i ++ l.drop (i + 1)).length = i + m := by rw [List.length_append, List.length_take, List.length_drop, HL.out]; omega
   refine oL ⟨by rw [cellsOf_length], .inr ⟨g, c, qd9, by rw [hlen], HG.out, hc2, by omega, ?_, by omega, ?_⟩⟩
   ·unfold maxLen; omega
   ·rw [hl2, hl1, hlen, wG _ _ _ (by
     rw [wG _ _ _ (by rw [hnews.out, hct]; omega)]
     simp [hct, hnews.out]; omega)]
    rw [wG _ _ _ (by rw [hnews.out, hct]; omega), pW, jU, hnews.out, Nat.zero_add]
    have h6 := H6.out
    have e1 : cur.toList.take (i * 3) = (cellsOf l).take (i * 3) := by rw [← h6, List.take_take]; congr 1; rw [HL.out]; omega
    have e2 : (cur.toList.take (i * 3) ++ cellsOf (l.drop (i + 1))).length = (i + m) * 3 := by rw [List.length_append, List.length_take, hnews.out, hct]; omega
    rw [List.append_assoc, List.take_append_of_le_length (by rw [List.length_take, List.length_append, List.length_append, List.length_take, hnews.out, hct, List.length_drop, hct]; omega)]
    rw [List.take_take, Nat.min_self, List.take_append_of_le_length (by omega), ← e2, List.take_length, e1]
  ·exact lY HG.out _ _ _ (lY HG.out _ _ _ (fH (Below.refl base w)))
  ·rw [lX g k hk, lX g k hk]
   rfl
 have AL := aA.mk hend
 clear hend
 have OM : ∀ (ty c' : Nat) (W : World), W = (w.drew.setCells g (0 + i * 3) (cellsOf (l.drop (i + 1)))) → (Builtin.clear_ #[31] ty #[.slice (some ⟨g, (i + m) * 3, none⟩) 1 c']).run Tryz.prog W = .ok (.tuple #[]) (W.setCells g ((i + m) * 3) [.int .u64 0, .string ⟨#[]⟩, .bool false]) := fun ty c' W hW =>
  TD W ty g ((i + m) * 3) c' ((AL.out W hW).out.1) ((AL.out W hW).out.2.1)
 have JV := aA.mk OM
 clear OM
 by_cases hci : c = i + 1
 ·have hm0 : m = 0 := by omega
  subst hm0
  subst hci
  simp only [Nat.add_zero] at AL JV HL hic him ⊢
  have z1 : (i : Int) ≤ (i : Int) + 1 := by omega
  have z2 : (0 : Int) ≤ (i : Int) + 1 := by omega
  go_enter Tryz.func62, Tryz.ntmps62
  go_wp2
  refine gX (n := 8) (S := fun w' => True) (ds := []) #[false, false, false, false, false, false, false, false] (by kernel_rfl) rfl rfl trivial (fun hHeld => ?_)
  refine puS (i := 0) (N := some 20) (v := ?_) (a' := ?_) rfl rfl (by kernel_rfl) (fun _ _ _ h => h) (Or.inl ⟨by rfl, ?_⟩) ?_ ?_
  rotate_left
  ·intro w'
   go_simp
   with_reducible rfl
  rotate_left
  ·simp only [Act.put, zA, zZ, zS, aH, aI]
   rfl
  refine puS (i := 1) (N := some 21) (v := ?_) (a' := ?_) rfl rfl (by kernel_rfl) (fun _ _ _ h => h) (Or.inl ⟨by rfl, ?_⟩) ?_ ?_
  rotate_left
  ·intro w'
   go_simp
   with_reducible rfl
  rotate_left
  ·simp only [Act.put, zA, zZ, zS, aH, aI]
   rfl
  refine puS (i := 2) (N := some 22) (v := ?_) (a' := ?_) rfl rfl (by kernel_rfl) (fun _ _ _ h => h) (Or.inl ⟨by rfl, ?_⟩) ?_ ?_
  rotate_left
  ·intro w'
   go_simp
   with_reducible rfl
  rotate_left
  ·simp only [Act.put, zA, zZ, zS, aH, aI]
   rfl
  refine puS (i := 3) (N := some 23) (v := ?_) (a' := ?_) rfl rfl (by kernel_rfl) (fun _ _ _ h => h) (Or.inl ⟨by rfl, ?_⟩) ?_ ?_
  rotate_left
  ·intro w'
   go_simp
   with_reducible rfl
  rotate_left
  ·simp only [Act.put, zA, zZ, zS, aH, aI]
   rfl
  refine puS (i := 4) (N := some 24) (v := ?_) (a' := ?_) rfl rfl (by kernel_rfl) (fun _ _ _ h => h) (Or.inl ⟨by rfl, ?_⟩) ?_ ?_
  rotate_left
  ·intro w'
   go_simp
   with_reducible rfl
  rotate_left
  ·simp only [Act.put, zA, zZ, zS, aH, aI]
   rfl
  refine puS (i := 5) (N := some 25) (v := ?_) (a' := ?_) rfl rfl (by kernel_rfl) (fun _ _ _ h => h) (Or.inl ⟨by rfl, ?_⟩) ?_ ?_
  rotate_left
  ·intro w'
   go_simp
   with_reducible rfl
  rotate_left
  ·simp only [Act.put, zA, zZ, zS, aH, aI]
   rfl
  refine onS (i := 6) (N := some 26) rfl rfl (by kernel_rfl) (by decide) (fun K hK => ?_)
  refine step_append_room rfl (.tmp 22) (.tmp 25) 31 rfl 41 i0 3 Tryz.underlying31 HI0.out HZ1.out g 0 i (i + 1) rfl ⟨g, 0, none⟩ 0 0 (cellsOf (l.drop (i + 1))) rfl hnews.out ?ncz (qU _) (by omega) hspare.out ?_
  case ncz => intro j u hu; exact absurd (List.getElem?_eq_some_iff.1 hu).1 (by rw [hnews.out]; omega)
  refine hK.out _ _ trivial (fun hHeld => ?_)
  clear hK K
  refine fU (a' := ?_) ?_ ?_
  rotate_left
  ·show Act.put _ (some 26) _ = _
   simp only [Act.put, zA, zZ, zS, aH, aI]
   rfl
  refine puS (i := 7) (N := some 0) (v := ?_) (a' := ?_) rfl rfl (by kernel_rfl) (fun _ _ _ h => h) (Or.inl ⟨by rfl, ?_⟩) ?_ ?_
  rotate_left
  ·intro w'
   go_simp
   with_reducible rfl
  rotate_left
  ·simp only [Act.put, zA, zZ, zS, aH, aI]
   rfl
  refine jM (by kernel_rfl) ?_
  obtain ⟨W, hW⟩ : ∃ W, W = (w.drew.setCells g (0 + i * 3) (cellsOf (l.drop (i + 1)))) := ⟨_, rfl⟩
  rw [← hW]
  have OM := fun ty c' => JV.out ty c' W hW
  have HW := AL.out W hW
  clear hW AL JV hHeld
  go_wp2
  go_ret
  exact ⟨rfl, HW.out.2.2.1, HW.out.2.2.2.1, HW.out.2.2.2.2⟩
 ·have z2 : (0 : Int) ≤ (i : Int) + 1 := by omega
  have z3 : (i : Int) + 1 ≤ (i : Int) + (m : Int) + 1 := by omega
  have z4 : i + 1 ≤ c := by omega
  have z5 : (i : Int) + 1 ≤ (c : Int) := by omega
  go_enter Tryz.func62, Tryz.ntmps62
  go_wp2
  refine gX (n := 8) (S := fun w' => True) (ds := []) #[false, false, false, false, false, false, false, false] (by kernel_rfl) rfl rfl trivial (fun hHeld => ?_)
  refine puS (i := 0) (N := some 20) (v := ?_) (a' := ?_) rfl rfl (by kernel_rfl) (fun _ _ _ h => h) (Or.inl ⟨by rfl, ?_⟩) ?_ ?_
  rotate_left
  ·intro w'
   go_simp
   with_reducible rfl
  rotate_left
  ·simp only [Act.put, zA, zZ, zS, aH, aI]
   rfl
  refine puS (i := 1) (N := some 21) (v := ?_) (a' := ?_) rfl rfl (by kernel_rfl) (fun _ _ _ h => h) (Or.inl ⟨by rfl, ?_⟩) ?_ ?_
  rotate_left
  ·intro w'
   go_simp
   with_reducible rfl
  rotate_left
  ·simp only [Act.put, zA, zZ, zS, aH, aI]
   rfl
  refine puS (i := 2) (N := some 22) (v := ?_) (a' := ?_) rfl rfl (by kernel_rfl) (fun _ _ _ h => h) (Or.inl ⟨by rfl, ?_⟩) ?_ ?_
  rotate_left
  ·intro w'
   go_simp
   with_reducible rfl
  rotate_left
  ·simp only [Act.put, zA, zZ, zS, aH, aI]
   rfl
  refine puS (i := 3) (N := some 23) (v := ?_) (a' := ?_) rfl rfl (by kernel_rfl) (fun _ _ _ h => h) (Or.inl ⟨by rfl, ?_⟩) ?_ ?_
  rotate_left
  ·intro w'
   go_simp
   with_reducible rfl
  rotate_left
  ·simp only [Act.put, zA, zZ, zS, aH, aI]
   rfl
  refine puS (i := 4) (N := some 24) (v := ?_) (a' := ?_) rfl rfl (by kernel_rfl) (fun _ _ _ h => h) (Or.inl ⟨by rfl, ?_⟩) ?_ ?_
  rotate_left
  ·intro w'
   go_simp
   with_reducible rfl
  rotate_left
  ·simp only [Act.put, zA, zZ, zS, aH, aI]
   rfl
  refine puS (i := 5) (N := some 25) (v := ?_) (a' := ?_) rfl rfl (by kernel_rfl) (fun _ _ _ h => h) (Or.inl ⟨by rfl, ?_⟩) ?_ ?_
  rotate_left
  ·intro w'
   go_simp
   with_reducible rfl
  rotate_left
  ·simp only [Act.put, zA, zZ, zS, aH, aI]
   rfl
  refine onS (i := 6) (N := some 26) rfl rfl (by kernel_rfl) (by decide) (fun K hK => ?_)
  refine step_append_room rfl (.tmp 22) (.tmp 25) 31 rfl 41 i0 3 Tryz.underlying31 HI0.out HZ1.out g 0 i c rfl ⟨g, (i + 1) * 3, none⟩ m (c - (i + 1)) (cellsOf (l.drop (i + 1))) rfl hnews.out ?ncg (qU _) (by omega) hspare.out ?_
  case ncg => intro j u hu; rw [add_plain']; exact hcell.out j u hu
  refine hK.out _ _ trivial (fun hHeld => ?_)
  clear hK K
  refine fU (a' := ?_) ?_ ?_
  rotate_left
  ·show Act.put _ (some 26) _ = _
   simp only [Act.put, zA, zZ, zS, aH, aI]
   rfl
  refine puS (i := 7) (N := some 0) (v := ?_) (a' := ?_) rfl rfl (by kernel_rfl) (fun _ _ _ h => h) (Or.inl ⟨by rfl, ?_⟩) ?_ ?_
  rotate_left
  ·intro w'
   go_simp
   with_reducible rfl
  rotate_left
  ·simp only [Act.put, zA, zZ, zS, aH, aI]
   rfl
  refine jM (by kernel_rfl) ?_
  obtain ⟨W, hW⟩ : ∃ W, W = (w.drew.setCells g (0 + i * 3) (cellsOf (l.drop (i + 1)))) := ⟨_, rfl⟩
  rw [← hW]
  have OM := fun ty c' => JV.out ty c' W hW
  have HW := AL.out W hW
  clear hW AL JV hHeld
  go_wp2
  go_ret
  exact ⟨rfl, HW.out.2.2.1, HW.out.2.2.2.1, HW.out.2.2.2.2⟩
theorem lQ {b W : World} {pre post : List Res} {g c j n : Nat} {l l' : List S41} {u : Value} (hn : n = l.length) (H : Sep b W (pre ++ row k41 41 (.slice (some ⟨g, 0, none⟩) n c) l :: post)) (hl : l'.length = l.length) (he : (cellsOf l).set j u = cellsOf l') (hj : j < l.length * 3) :
  Sep b (W.setCell ⟨g, j, none⟩ u) (pre ++ row k41 41 (.slice (some ⟨g, 0, none⟩) n c) l' :: post) := by
 subst hn
 refine H.upd (r' := row k41 41 (.slice (some ⟨g, 0, none⟩) l.length c) l') ((Upd.setCell W ⟨g, j, none⟩ u).mono fun k hk => ?_) ?_ (fun k hk => .inl hk)
 ·show (Value.slice (some ⟨g, 0, none⟩) l.length c).ownBlock = some k
  rw [hk]
  rfl
 ·have hr : Kd.R k41 41 W 0 (fun k => (Value.slice (some ⟨g, 0, none⟩) l.length c).ownBlock = some k) (.slice (some ⟨g, 0, none⟩) l.length c) l := H.all (qH (some ⟨g, 0, none⟩) c l) (by simp)
  have h2 := zG (Kd.uK hr (fun _ _ => trivial)) hl he hj
  rw [hl] at h2
  exact Kd.JK rF h2 (fun k hk _ => hk)
theorem sO {b w : World} {rs : List Res} {g c i : Nat} {l : List S41} (hi : i < l.length) (hn : l.length ≤ 1024) (H : aA (Sep b w (qH (some ⟨g, 0, none⟩) c l :: rs))) :
  Calls Tryz.prog 62 #[.slice (some ⟨g, 0, none⟩) l.length c, .int .i64 (i : Int), .int .i64 ((i : Int) + 1)] w fun e w' => e = .returned (.slice (some ⟨g, 0, none⟩) (l.eraseIdx i).length c) ∧ aA (Sep b w' (qH (some ⟨g, 0, none⟩) c (l.eraseIdx i) :: rs)) := by
 have hr : Kd.R k41 41 w 0 (fun k => (Value.slice (some ⟨g, 0, none⟩) l.length c).ownBlock = some k) (.slice (some ⟨g, 0, none⟩) l.length c) l := H.out.all (qH (some ⟨g, 0, none⟩) c l) (by simp)
 obtain ⟨m, hm⟩ : ∃ m, l.length = i + m + 1 := ⟨l.length - i - 1, by omega⟩
 have he : l.eraseIdx i = l.take i ++ l.drop (i + 1) := List.eraseIdx_eq_take_drop_succ l i
 have hlen : (l.take i ++ l.drop (i + 1)).length = i + m := by rw [List.length_append, List.length_take, List.length_drop]; omega
 have h := AB w 0 l g c i m hm hn (Kd.uK hr (fun _ _ => trivial))
 rw [← hm] at h
 refine h.mono ?_
 rintro e w4 ⟨rfl, h1, h2, h3⟩
 rw [he]
 refine ⟨by rw [hlen], ⟨H.out.qct (r' := qH (some ⟨g, 0, none⟩) c (l.take i ++ l.drop (i + 1))) ⟨h2.os, h2.tape, h2.output, h2.size, fun k hk hne => h3 k fun e => hne ?_⟩ ?_ (fun k hk => .inl hk)⟩⟩
 ·show (Value.slice (some ⟨g, 0, none⟩) l.length c).ownBlock = some k
  rw [e]
  rfl
 ·have h5 := Kd.JK rF h1 (ok' := fun k => (Value.slice (some ⟨g, 0, none⟩) (l.take i ++ l.drop (i + 1)).length c).ownBlock = some k) (fun k hk _ => by rw [hlen]; exact hk)
  rw [← hlen] at h5
  exact h5
end Go.Proofs.UE
