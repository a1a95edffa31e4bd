import Derived.LoopN
import Derived.Test.YtanonhipicoigaaGreatDoorZSam
import Derived.Test.YtanonhipicoigaaGreatDoorZSal
import Derived.Test.YtanonhipicoigaaGreatDoorZSag
set_option linter.unusedVariables false
set_option linter.unusedSimpArgs false
set_option maxRecDepth 100000
namespace Go.Proofs.U
open Go.RowKit Go.Proofs.YW.PrintWords Go.Proofs.YW.PrintLast Go.Proofs.YW.PrintMore Go.Proofs.Sp Go.Proofs.fG
theorem tH {P : Program} {ops : Array Oper} {Q : Exit → Act → World → Prop} {oi : Oper} {N : Option Tmp} {a : Act} {w : World} {K : Act → World → Prop} {f : FuncId} {fn : Func} {aa : Array Operand} {ts : Array TypeId} (hf : P.funcs[f]? = some fn) (hname : (fn.name == "runtime.NumGoroutine") = false) (hb : fn.body.isSome = true) (args : Array Value)
  (hw : Region.wanted oi (yielded ops a.tmps) = true) (hN : oi.dst = N) (hop : oi.op = .call { callee := .value (.func f), args := aa, argTypes := ts }) (hargs : aa.map a.eval = args)
  (h : Calls P f args w fun e w' => (∃ v, e = .returned v ∧ K (a.put N v) w') ∨ (∃ ch, e = .panicked ch ∧ Q (.panic ch) a w')) : if Region.wanted oi (yielded ops a.tmps) = true then Oper.wp P oi a w K Q else K (a.put N undef) w := by
 rw [if_pos hw]
 subst hN
 have he := jS hf hname hb args w
 have hrun : (execOp a.eval oi).run P w = .ok (.enter f args) w := by
  unfold execOp
  simp [hop, resolve, Deferred.ofValue, invoke, Act.eval, hargs, he]
 unfold Oper.wp
 rw [hrun, Oper.upon_enter]
 refine h.mono fun e w'' hh => ?_
 rcases hh with ⟨v, rfl, hk⟩ | ⟨ch, rfl, hk⟩
 ·exact hk
 ·exact hk
def oD : Lg → List Pl → Lg × Int
 | L, [] => (L, 0)
 | L, p :: r => if (fE L.l L.dn L.fu L.fa p.1.f0).2.2.2.2 = 0 then oD (chg L (fE L.l L.dn L.fu L.fa p.1.f0)) r else (chg L (fE L.l L.dn L.fu L.fa p.1.f0), (fE L.l L.dn L.fu L.fa p.1.f0).2.2.2.2)
def oQ (L : Lg) (t : Option (Pl × Nat)) : Lg × Int :=
 match t with
 | none => (L, 0)
 | some x => (chg L (DL L.l L.dn L.fu L.fa x.1.1.f0 (x.2 : Int)), (DL L.l L.dn L.fu L.fa x.1.1.f0 (x.2 : Int)).2.2.2.2)
def iD (L : Lg) (F : fG.Fd) (n : Nat) : Lg × Int :=
 if (oD L F.gone.reverse).2 = 0 then
  if (oQ (oD L F.gone.reverse).1 F.qY).2 = 0 then ({ (oQ (oD L F.gone.reverse).1 F.qY).1 with fr := (n : Int), nx := (F.next : Int) }, 0)
  else oQ (oD L F.gone.reverse).1 F.qY
 else oD L F.gone.reverse
set_option maxHeartbeats 8000000 in
theorem qcQ (b : World) (gl gf gv : Nat) {tn : ByteArray} {ta : Int} (L0 : Lg) (F : fG.Fd) (n : Nat) (A1 A2 Aq : Option Addr) (nr c1 c2 cq : Nat) (ps : List Pl)
  (hC : ∀ W, Kd.C dY W Aq ps.length ps → Kd.C dY W A2 F.gone.length F.gone) (hlen : F.gone.length ≤ 64) (hn : pX F.qY = tn) (ht : ∀ x, F.qY = some x → x.1.1.f0.toList ≠ []) (hta : xY F.qY = ta) :
  MZ b gl 71 #[.pointer (some ⟨gf, 0, none⟩), .pointer (some ⟨gv, 0, none⟩)] L0 [box gf [.slice A1 nr c1, .int .u64 (n : Int), .int .u64 (F.next : Int), .string tn, .int .i64 (ta : Int), .slice A2 F.gone.length c2] 129, box gv [.pointer (some ⟨gl, 0, none⟩)] 131, row dY 139 (.slice Aq (ps).length cq) ps] (iD L0 F n).1 (iD L0 F n).2 := by
 intro A c w ts H0
 have HC := aA.mk hC
 have HT := aA.mk ht
 have HN := aA.mk hn
 have HA := aA.mk hta
 clear hC ht hn hta
 obtain ⟨g, hg⟩ : ∃ g, g = F.gone := ⟨_, rfl⟩
 rw [← hg] at hlen HC H0
 have HG := aA.mk hg
 clear hg
 have H : aA (Sep b w (box gl [.slice A L0.l.length c, .bool L0.dn, .int .i64 L0.fu, .int .i64 L0.fa, .int .i64 L0.size, .int .u64 L0.fr, .int .u64 L0.nx, .bool L0.br] 134 :: row k67 67 (.slice A (L0.l).length c) L0.l :: box gf [.slice A1 nr c1, .int .u64 (n : Int), .int .u64 (F.next : Int), .string tn, .int .i64 ta, .slice A2 g.length c2] 129 :: box gv [.pointer (some ⟨gl, 0, none⟩)] 131 :: row dY 139 (.slice Aq (ps).length cq) ps :: ts)) := H0
 clear H0
 have c_l := H.out.cell (g := gl) aJ
 have z_l := H.out.frozen (g := gl) aJ
 have c_f := H.out.cell (g := gf) mem2
 have c_v := H.out.cell (g := gv) mem3
 go_enter Tryz.func71, Tryz.ntmps71
 go_wp2_with fail
 go_loopw [2] (fun v2 wr => ∃ (k : Nat) (L : Lg) (A : Option Addr) (c : Nat), v2 = .int .i64 ((k : Int) - 1) ∧ k ≤ g.length ∧ aA (oD L0 g.reverse = oD L (g.take k).reverse) ∧ aA (Sep b wr (box gl [.slice A L.l.length c, .bool L.dn, .int .i64 L.fu, .int .i64 L.fa, .int .i64 L.size, .int .u64 L.fr, .int .u64 L.nx, .bool L.br] 134 :: row k67 67 (.slice A (L.l).length c) L.l :: box gf [.slice A1 nr c1, .int .u64 (n : Int), .int .u64 (F.next : Int), .string tn, .int .i64 ta, .slice A2 g.length c2] 129 :: box gv [.pointer (some ⟨gl, 0, none⟩)] 131 :: row dY 139 (.slice Aq (ps).length cq) ps :: ts))) (fun v2 _ => ((intOf v2) + 1).toNat)
 case atStart => exact ⟨g.length, L0, A, c, rfl, Nat.le_refl _, ⟨by rw [List.take_length]⟩, H⟩
 case round =>
  clear H c_l z_l c_f c_v
  obtain ⟨k, L, A, c, rfl, hk, HR, H⟩ := hrel
  have c_l := H.out.cell (g := gl) aJ
  have z_l := H.out.frozen (g := gl) aJ
  have c_f := H.out.cell (g := gf) mem2
  have c_v := H.out.cell (g := gv) mem3
  cases k with
  | succ j =>
   obtain ⟨p, hp⟩ : ∃ p, g[j]? = some p := ⟨_, List.getElem?_eq_getElem (by omega)⟩
   rw [show (((j + 1 : Nat) : Int) - 1) = (j : Int) by omega]
   have HR2 : aA (oD L0 g.reverse = oD L (p :: (g.take j).reverse)) := ⟨by rw [HR.out, List.take_add_one, hp]; simp⟩
   clear HR
   obtain ⟨ag, e1⟩ := EZ (HC.out _ (H.out.reads (A := Aq) bK).2.2) (by omega)
   subst e1
   obtain ⟨h0, _, _, _⟩ := tZ (HC.out _ (H.out.reads (A := Aq) bK).2.2) hp
   have HP := aA.mk hp
   clear hp
   have hj0 : (0 : Int) ≤ (j : Int) := by omega
   have hj1 : (j : Int) < (g.length : Int) := by omega
   obtain ⟨D, hD⟩ : ∃ D, D = fE L.l L.dn L.fu L.fa p.1.f0 := ⟨_, rfl⟩
   have HD := aA.mk hD
   clear hD
   clear c_l z_l c_f c_v
   have c_l := H.out.cell (g := gl) aJ
   have z_l := H.out.frozen (g := gl) aJ
   have c_f := H.out.cell (g := gf) mem2
   have c_v := H.out.cell (g := gv) mem3
   go_upto_region 3 with fail
   refine gX (n := 17) (S := fun w' => (∀ j : Nat, w'.cell? ⟨gv, j, none⟩ = [.pointer (some ⟨gl, 0, none⟩)][j]?) ∧ (∀ j : Nat, w'.cell? ⟨gl, j, none⟩ = [.slice A L.l.length c, .bool L.dn, .int .i64 L.fu, .int .i64 L.fa, .int .i64 L.size, .int .u64 L.fr, .int .u64 L.nx, .bool L.br][j]?) ∧ (∀ j : Nat, w'.cell? ⟨gf, j, none⟩ = [.slice A1 nr c1, .int .u64 (n : Int), .int .u64 (F.next : Int), .string tn, .int .i64 ta, .slice (some ag) g.length c2][j]?) ∧ w'.cell? (ag.add (j * 4)) = some (.string p.1.f0) ∧ Sp.Sep b w' (box gl [.slice A L.l.length c, .bool L.dn, .int .i64 L.fu, .int .i64 L.fa, .int .i64 L.size, .int .u64 L.fr, .int .u64 L.nx, .bool L.br] 134 :: row k67 67 (.slice A (L.l).length c) L.l :: box gf [.slice A1 nr c1, .int .u64 (n : Int), .int .u64 (F.next : Int), .string tn, .int .i64 ta, .slice (some ag) g.length c2] 129 :: box gv [.pointer (some ⟨gl, 0, none⟩)] 131 :: row dY 139 (.slice Aq (ps).length cq) ps :: ts)) (ds := [16]) #[false, false, false, false, false, false, false, false, false, false, false, false, false, false, false, false, false] (by kernel_rfl) rfl rfl ⟨(fun j => ((Sep.drew H.out)).cell (g := gv) mem3 j), (fun j => ((Sep.drew H.out)).cell (g := gl) aJ j), (fun j => ((Sep.drew H.out)).cell (g := gf) mem2 j), (tZ (HC.out _ (Sep.reads (A := Aq) (Sep.drew H.out) bK).2.2) HP.out).1, (Sep.drew H.out)⟩ (fun hHeld => ?_)
   refine puS (i := 6) (N := some 17) (v := ?_) (a' := ?_) rfl rfl (by kernel_rfl) (fun _ _ _ h => h) (Or.inl ⟨by rfl, ?_⟩) ?_ ?_
   rotate_left
   ·intro w'
    go_simp
    with_reducible rfl
   rotate_left
   ·simp only [Act.put, zA, zZ, zS, aH, aI]
    rfl
   refine puS (i := 8) (N := some 19) (v := ?_) (a' := ?_) rfl rfl (by kernel_rfl) (fun _ _ _ h => h) (Or.inl ⟨by rfl, ?_⟩) ?_ ?_
   rotate_left
   ·intro w'
    go_simp
    with_reducible rfl
   rotate_left
   ·simp only [Act.put, zA, zZ, zS, aH, aI]
    rfl
   refine tkS (i := 0) (N := some 11) (v := ?_) (a' := ?_) rfl rfl (by kernel_rfl) (fun _ _ _ h => h) (Or.inl ⟨by rfl, ?_⟩) hHeld ?_ ?_
   rotate_left
   ·rintro w' ⟨s0, s1, s2, s3, s4⟩
    go_simp
    with_reducible rfl
   rotate_left
   ·simp only [Act.put, zA, zZ, zS, aH, aI]
    rfl
   refine tkS (i := 1) (N := some 12) (v := ?_) (a' := ?_) rfl rfl (by kernel_rfl) (fun _ _ _ h => h) (Or.inl ⟨by rfl, ?_⟩) hHeld ?_ ?_
   rotate_left
   ·rintro w' ⟨s0, s1, s2, s3, s4⟩
    go_simp
    with_reducible rfl
   rotate_left
   ·simp only [Act.put, zA, zZ, zS, aH, aI]
    rfl
   refine puS (i := 2) (N := some 13) (v := ?_) (a' := ?_) rfl rfl (by kernel_rfl) (fun _ _ _ h => h) (Or.inl ⟨by rfl, ?_⟩) ?_ ?_
   rotate_left
   ·intro w'
    go_simp
    with_reducible rfl
   rotate_left
   ·simp only [Act.put, zA, zZ, zS, aH, aI]
    rfl
   refine puS (i := 3) (N := some 14) (v := ?_) (a' := ?_) rfl rfl (by kernel_rfl) (fun _ _ _ h => h) (Or.inl ⟨by rfl, ?_⟩) ?_ ?_
   rotate_left
   ·intro w'
    go_simp
    with_reducible rfl
   rotate_left
   ·simp only [Act.put, zA, zZ, zS, aH, aI]
    rfl
   refine puS (i := 4) (N := some 15) (v := ?_) (a' := ?_) rfl rfl (by kernel_rfl) (fun _ _ _ h => h) (Or.inl ⟨by rfl, ?_⟩) ?_ ?_
   rotate_left
   ·intro w'
    go_simp
    with_reducible rfl
   rotate_left
   ·simp only [Act.put, zA, zZ, zS, aH, aI]
    rfl
   refine tkS (i := 5) (N := some 16) (v := ?_) (a' := ?_) rfl rfl (by kernel_rfl) (fun _ _ _ h => h) (Or.inl ⟨by rfl, ?_⟩) hHeld ?_ ?_
   rotate_left
   ·rintro w' ⟨s0, s1, s2, s3, s4⟩
    go_simp
    with_reducible rfl
   rotate_left
   ·simp only [Act.put, zA, zZ, zS, aH, aI]
    rfl
   refine tkS (i := 7) (N := some 18) (v := ?_) (a' := ?_) rfl rfl (by kernel_rfl) (fun _ _ _ h => h) (Or.inl ⟨by rfl, ?_⟩) hHeld ?_ ?_
   rotate_left
   ·rintro w' ⟨s0, s1, s2, s3, s4⟩
    go_simp
    with_reducible rfl
   rotate_left
   ·simp only [Act.put, zA, zZ, zS, aH, aI]
    rfl
   refine puS (i := 9) (N := some 20) (v := ?_) (a' := ?_) rfl rfl (by kernel_rfl) (fun _ _ _ h => h) (Or.inl ⟨by rfl, ?_⟩) ?_ ?_
   rotate_left
   ·intro w'
    go_simp
    with_reducible rfl
   rotate_left
   ·simp only [Act.put, zA, zZ, zS, aH, aI]
    rfl
   refine puS (i := 10) (N := some 21) (v := ?_) (a' := ?_) rfl rfl (by kernel_rfl) (fun _ _ _ h => h) (Or.inl ⟨by rfl, ?_⟩) ?_ ?_
   rotate_left
   ·intro w'
    go_simp
    with_reducible rfl
   rotate_left
   ·simp only [Act.put, zA, zZ, zS, aH, aI]
    rfl
   refine puS (i := 11) (N := some 22) (v := ?_) (a' := ?_) rfl rfl (by kernel_rfl) (fun _ _ _ h => h) (Or.inl ⟨by rfl, ?_⟩) ?_ ?_
   rotate_left
   ·intro w'
    go_simp
    with_reducible rfl
   rotate_left
   ·simp only [Act.put, zA, zZ, zS, aH, aI]
    rfl
   refine tkS (i := 12) (N := some 23) (v := ?_) (a' := ?_) rfl rfl (by kernel_rfl) (fun _ _ _ h => h) (Or.inl ⟨by rfl, ?_⟩) hHeld ?_ ?_
   rotate_left
   ·rintro w' ⟨s0, s1, s2, s3, s4⟩
    go_simp
    with_reducible rfl
   rotate_left
   ·simp only [Act.put, zA, zZ, zS, aH, aI]
    rfl
   refine onS (i := 13) (N := some 24) rfl rfl (by kernel_rfl) (by decide) (fun K hK => ?_)
   refine qP Tryz.func73 (by kernel_rfl) rfl #[.agg #[.slice A L.l.length c, .bool L.dn, .int .i64 L.fu, .int .i64 L.fa], .string p.1.f0] (by rfl) rfl rfl (by simp only [List.map_toArray, List.map_cons, List.map_nil]; rfl) ?_
   with_reducible refine (o9.calls A c L.l L.dn L.fu L.fa p.1.f0 D.1 D.2.1 D.2.2.1 D.2.2.2.1 D.2.2.2.2 _ (Sep.reads hHeld.2.2.2.2 mem1).2.2 (Sep.reads hHeld.2.2.2.2 mem1).2.1 (by rw [xQ, ← HD.out])).mono ?_
   rintro e w3 ⟨v_, rfl, ho_, hb_⟩
   obtain ⟨A3, c3, eo_⟩ := Kd.dQ ho_
   subst eo_
   have HN3 := aA.mk (Sep.iY hHeld.2.2.2.2 hb_ ho_ lJ)
   refine ⟨_, rfl, ?_⟩
   refine hK.out _ _ ⟨(fun j => ((Sep.step hHeld.2.2.2.2 hb_)).cell (g := gv) mem3 j), (fun j => ((Sep.step hHeld.2.2.2.2 hb_)).cell (g := gl) aJ j), (fun j => ((Sep.step hHeld.2.2.2.2 hb_)).cell (g := gf) mem2 j), (tZ (HC.out _ (Sep.reads (A := Aq) (Sep.step hHeld.2.2.2.2 hb_) bK).2.2) HP.out).1, (Sep.step hHeld.2.2.2.2 hb_)⟩ (fun hHeld => ?_)
   clear hK K
   refine fU (a' := ?_) ?_ ?_
   rotate_left
   ·show Act.put _ (some 24) _ = _
    simp only [Act.put, zA, zZ, zS, aH, aI]
    rfl
   refine puS (i := 14) (N := some 25) (v := ?_) (a' := ?_) rfl rfl (by kernel_rfl) (fun _ _ _ h => h) (Or.inl ⟨by rfl, ?_⟩) ?_ ?_
   rotate_left
   ·intro w'
    go_simp
    with_reducible rfl
   rotate_left
   ·simp only [Act.put, zA, zZ, zS, aH, aI]
    rfl
   refine puS (i := 15) (N := some 26) (v := ?_) (a' := ?_) rfl rfl (by kernel_rfl) (fun _ _ _ h => h) (Or.inl ⟨by rfl, ?_⟩) ?_ ?_
   rotate_left
   ·intro w'
    go_simp
    with_reducible rfl
   rotate_left
   ·simp only [Act.put, zA, zZ, zS, aH, aI]
    rfl
   refine laS (i := 16) (N := some 27) rfl rfl (by kernel_rfl) (by decide) (fun K hK => ?_)
   refine tH Tryz.func72 (by kernel_rfl) rfl #[.pointer (some ⟨gl, 0, none⟩), .agg #[.slice A3 D.1.length c3, .bool D.2.1, .int .i64 D.2.2.1, .int .i64 D.2.2.2.1], .int .i64 D.2.2.2.2] (by rfl) rfl rfl (by simp only [List.map_toArray, List.map_cons, List.map_nil]; rfl) ?_
   refine (qF gl A c L A3 c3 D (rs := oJ A3 c3 D.1 :: (row k67 67 (.slice A (L.l).length c) L.l :: box gf [.slice A1 nr c1, .int .u64 (n : Int), .int .u64 (F.next : Int), .string tn, .int .i64 ta, .slice (some ag) g.length c2] 129 :: box gv [.pointer (some ⟨gl, 0, none⟩)] 131 :: row dY 139 (.slice Aq (ps).length cq) ps :: ts)) ⟨HN3.out.iP⟩).mono ?_
   rintro e w4 ⟨hE, H4⟩
   rcases hE with ⟨hz, rfl⟩ | ⟨hnz, rfl⟩
   rotate_left
   ·refine .inr ⟨_, rfl, ?_⟩
    show _ ∧ _
    have hOD : iD L0 F n = (chg L D, D.2.2.2.2) := by rw [iD, ← HG.out, HR2.out, oD, ← HD.out, if_neg hnz, if_neg hnz]
    rw [hOD, ← HG.out]
    exact ⟨rfl, .inr ⟨hnz, rfl⟩, A3, c3, ⟨H4.out.drop2⟩⟩
   refine .inl ⟨_, rfl, ?_⟩
   refine hK.out _ _ ?_
   clear hK K
   refine fU (a' := ?_) ?_ ?_
   rotate_left
   ·show Act.put _ (some 27) _ = _
    simp only [Act.put, zA, zZ, zS, aH, aI]
    rfl
   refine jM (by kernel_rfl) ?_
   go_wp2
   refine ⟨⟨j, chg L D, A3, c3, rfl, by omega, ⟨?_⟩, ⟨H4.out.drop2⟩⟩, by simp [intOf]⟩
   rw [HR2.out, oD, ← HD.out, if_pos hz]
  | zero =>
   have hR : oD L0 g.reverse = (L, 0) := by rw [HR.out]; rfl
   have HRR := aA.mk hR
   clear HR hR
   simp only [Int.natCast_zero, Int.zero_sub]
   cases hto : F.qY with
   | none =>
    have htn : tn = ⟨#[]⟩ := by rw [← HN.out, hto]; rfl
    subst htn
    go_wp2_with (first
 |((with_reducible refine aN (t := 28) (p := 53) rfl ?_);
   refine aZ (rs1 := (box gl [.slice A L.l.length c, .bool L.dn, .int .i64 L.fu, .int .i64 L.fa, .int .i64 L.size, .int .u64 (n : Int), .int .u64 L.nx, .bool L.br] 134 :: row k67 67 (.slice A (L.l).length c) L.l :: box gf [.slice A1 nr c1, .int .u64 (n : Int), .int .u64 (F.next : Int), .string ⟨#[]⟩, .int .i64 ta, .slice A2 g.length c2] 129 :: box gv [.pointer (some ⟨gl, 0, none⟩)] 131 :: row dY 139 (.slice Aq (ps).length cq) ps :: ts)) rfl (t := 28) (p := 53) rfl rfl ?hr (H1 := (Sep.set0 H.out 5 (.int .u64 (n : Int)) rfl)) ?_;
   (case hr => first | (go_simp; done) | (go_simp; rfl));
   intro wd1 n_;
   clear H c_l z_l c_f c_v;
   have H := n_;
   clear n_;
   have c_l := H.out.cell (g := gl) aJ;
   have z_l := H.out.frozen (g := gl) aJ;
   have c_f := H.out.cell (g := gf) mem2;
   have c_v := H.out.cell (g := gv) mem3)
 |((with_reducible refine aN (t := 28) (p := 56) rfl ?_);
   refine aZ (rs1 := (box gl [.slice A L.l.length c, .bool L.dn, .int .i64 L.fu, .int .i64 L.fa, .int .i64 L.size, .int .u64 (n : Int), .int .u64 (F.next : Int), .bool L.br] 134 :: row k67 67 (.slice A (L.l).length c) L.l :: box gf [.slice A1 nr c1, .int .u64 (n : Int), .int .u64 (F.next : Int), .string ⟨#[]⟩, .int .i64 ta, .slice A2 g.length c2] 129 :: box gv [.pointer (some ⟨gl, 0, none⟩)] 131 :: row dY 139 (.slice Aq (ps).length cq) ps :: ts)) rfl (t := 28) (p := 56) rfl rfl ?hr (H1 := (Sep.set0 H.out 6 (.int .u64 (F.next : Int)) rfl)) ?_;
   (case hr => first | (go_simp; done) | (go_simp; rfl));
   intro wd2 n_;
   clear H c_l z_l c_f c_v;
   have H := n_;
   clear n_;
   have c_l := H.out.cell (g := gl) aJ;
   have z_l := H.out.frozen (g := gl) aJ;
   have c_f := H.out.cell (g := gf) mem2;
   have c_v := H.out.cell (g := gv) mem3)
 |fail)
    go_end0
    have hOD : iD L0 F n = ({ L with fr := (n : Int), nx := (F.next : Int) }, 0) := by
     rw [iD, ← HG.out, HRR.out, if_pos rfl, hto, oQ, if_pos rfl]
    rw [hOD, ← HG.out]
    exact ⟨.inl ⟨rfl, rfl⟩, A, c, H⟩
   | some x =>
    have hne := HT.out x hto
    have htn : tn = x.1.1.f0 := by rw [← HN.out, hto]; rfl
    have hta : ta = (x.2 : Int) := by rw [← HA.out, hto]; rfl
    rw [← htn] at hne
    have hnb : (tn.toList == ([] : List UInt8)) = false := beq_eq_false_iff_ne.2 hne
    obtain ⟨D, hD⟩ : ∃ D, D = DL L.l L.dn L.fu L.fa tn ta := ⟨_, rfl⟩
    have HD := aA.mk hD
    have hct : oQ L F.qY = (chg L D, D.2.2.2.2) := by rw [hto, oQ, hD, htn, hta]
    have HCT := aA.mk hct
    clear hD hct htn hta hne
    go_upto_region 5 with fail
    refine gX (n := 14) (S := fun w' => (∀ j : Nat, w'.cell? ⟨gv, j, none⟩ = [.pointer (some ⟨gl, 0, none⟩)][j]?) ∧ (∀ j : Nat, w'.cell? ⟨gl, j, none⟩ = [.slice A L.l.length c, .bool L.dn, .int .i64 L.fu, .int .i64 L.fa, .int .i64 L.size, .int .u64 L.fr, .int .u64 L.nx, .bool L.br][j]?) ∧ (∀ j : Nat, w'.cell? ⟨gf, j, none⟩ = [.slice A1 nr c1, .int .u64 (n : Int), .int .u64 (F.next : Int), .string tn, .int .i64 ta, .slice A2 g.length c2][j]?) ∧ Sp.Sep b w' (box gl [.slice A L.l.length c, .bool L.dn, .int .i64 L.fu, .int .i64 L.fa, .int .i64 L.size, .int .u64 L.fr, .int .u64 L.nx, .bool L.br] 134 :: row k67 67 (.slice A (L.l).length c) L.l :: box gf [.slice A1 nr c1, .int .u64 (n : Int), .int .u64 (F.next : Int), .string tn, .int .i64 ta, .slice A2 g.length c2] 129 :: box gv [.pointer (some ⟨gl, 0, none⟩)] 131 :: row dY 139 (.slice Aq (ps).length cq) ps :: ts)) (ds := [13]) #[false, false, false, false, false, false, false, false, false, false, false, false, false, false] (by kernel_rfl) rfl rfl ⟨(fun j => ((Sep.drew H.out)).cell (g := gv) mem3 j), (fun j => ((Sep.drew H.out)).cell (g := gl) aJ j), (fun j => ((Sep.drew H.out)).cell (g := gf) mem2 j), (Sep.drew H.out)⟩ (fun hHeld => ?_)
    refine puS (i := 6) (N := some 37) (v := ?_) (a' := ?_) rfl rfl (by kernel_rfl) (fun _ _ _ h => h) (Or.inl ⟨by rfl, ?_⟩) ?_ ?_
    rotate_left
    ·intro w'
     go_simp
     with_reducible rfl
    rotate_left
    ·simp only [Act.put, zA, zZ, zS, aH, aI]
     rfl
    refine puS (i := 8) (N := some 39) (v := ?_) (a' := ?_) rfl rfl (by kernel_rfl) (fun _ _ _ h => h) (Or.inl ⟨by rfl, ?_⟩) ?_ ?_
    rotate_left
    ·intro w'
     go_simp
     with_reducible rfl
    rotate_left
    ·simp only [Act.put, zA, zZ, zS, aH, aI]
     rfl
    refine tkS (i := 0) (N := some 31) (v := ?_) (a' := ?_) rfl rfl (by kernel_rfl) (fun _ _ _ h => h) (Or.inl ⟨by rfl, ?_⟩) hHeld ?_ ?_
    rotate_left
    ·rintro w' ⟨s0, s1, s2, s3⟩
     go_simp
     with_reducible rfl
    rotate_left
    ·simp only [Act.put, zA, zZ, zS, aH, aI]
     rfl
    refine tkS (i := 1) (N := some 32) (v := ?_) (a' := ?_) rfl rfl (by kernel_rfl) (fun _ _ _ h => h) (Or.inl ⟨by rfl, ?_⟩) hHeld ?_ ?_
    rotate_left
    ·rintro w' ⟨s0, s1, s2, s3⟩
     go_simp
     with_reducible rfl
    rotate_left
    ·simp only [Act.put, zA, zZ, zS, aH, aI]
     rfl
    refine puS (i := 2) (N := some 33) (v := ?_) (a' := ?_) rfl rfl (by kernel_rfl) (fun _ _ _ h => h) (Or.inl ⟨by rfl, ?_⟩) ?_ ?_
    rotate_left
    ·intro w'
     go_simp
     with_reducible rfl
    rotate_left
    ·simp only [Act.put, zA, zZ, zS, aH, aI]
     rfl
    refine puS (i := 3) (N := some 34) (v := ?_) (a' := ?_) rfl rfl (by kernel_rfl) (fun _ _ _ h => h) (Or.inl ⟨by rfl, ?_⟩) ?_ ?_
    rotate_left
    ·intro w'
     go_simp
     with_reducible rfl
    rotate_left
    ·simp only [Act.put, zA, zZ, zS, aH, aI]
     rfl
    refine puS (i := 4) (N := some 35) (v := ?_) (a' := ?_) rfl rfl (by kernel_rfl) (fun _ _ _ h => h) (Or.inl ⟨by rfl, ?_⟩) ?_ ?_
    rotate_left
    ·intro w'
     go_simp
     with_reducible rfl
    rotate_left
    ·simp only [Act.put, zA, zZ, zS, aH, aI]
     rfl
    refine tkS (i := 5) (N := some 36) (v := ?_) (a' := ?_) rfl rfl (by kernel_rfl) (fun _ _ _ h => h) (Or.inl ⟨by rfl, ?_⟩) hHeld ?_ ?_
    rotate_left
    ·rintro w' ⟨s0, s1, s2, s3⟩
     go_simp
     with_reducible rfl
    rotate_left
    ·simp only [Act.put, zA, zZ, zS, aH, aI]
     rfl
    refine tkS (i := 7) (N := some 38) (v := ?_) (a' := ?_) rfl rfl (by kernel_rfl) (fun _ _ _ h => h) (Or.inl ⟨by rfl, ?_⟩) hHeld ?_ ?_
    rotate_left
    ·rintro w' ⟨s0, s1, s2, s3⟩
     go_simp
     with_reducible rfl
    rotate_left
    ·simp only [Act.put, zA, zZ, zS, aH, aI]
     rfl
    refine tkS (i := 9) (N := some 40) (v := ?_) (a' := ?_) rfl rfl (by kernel_rfl) (fun _ _ _ h => h) (Or.inl ⟨by rfl, ?_⟩) hHeld ?_ ?_
    rotate_left
    ·rintro w' ⟨s0, s1, s2, s3⟩
     go_simp
     with_reducible rfl
    rotate_left
    ·simp only [Act.put, zA, zZ, zS, aH, aI]
     rfl
    refine onS (i := 10) (N := some 41) rfl rfl (by kernel_rfl) (by decide) (fun K hK => ?_)
    refine qP Tryz.func74 (by kernel_rfl) rfl #[.agg #[.slice A L.l.length c, .bool L.dn, .int .i64 L.fu, .int .i64 L.fa], .string tn, .int .i64 ta] (by rfl) rfl rfl (by simp only [List.map_toArray, List.map_cons, List.map_nil]; rfl) ?_
    with_reducible refine (xP.calls A c L.l L.dn L.fu L.fa tn ta D.1 D.2.1 D.2.2.1 D.2.2.2.1 D.2.2.2.2 _ (Sep.reads hHeld.2.2.2 mem1).2.2 (Sep.reads hHeld.2.2.2 mem1).2.1 (by rw [RU, ← HD.out])).mono ?_
    rintro e w3 ⟨v_, rfl, ho_, hb_⟩
    obtain ⟨A3, c3, eo_⟩ := Kd.dQ ho_
    subst eo_
    have HN3 := aA.mk (Sep.iY hHeld.2.2.2 hb_ ho_ lJ)
    refine ⟨_, rfl, ?_⟩
    refine hK.out _ _ ⟨(fun j => ((Sep.step hHeld.2.2.2 hb_)).cell (g := gv) mem3 j), (fun j => ((Sep.step hHeld.2.2.2 hb_)).cell (g := gl) aJ j), (fun j => ((Sep.step hHeld.2.2.2 hb_)).cell (g := gf) mem2 j), (Sep.step hHeld.2.2.2 hb_)⟩ (fun hHeld => ?_)
    clear hK K
    refine fU (a' := ?_) ?_ ?_
    rotate_left
    ·show Act.put _ (some 41) _ = _
     simp only [Act.put, zA, zZ, zS, aH, aI]
     rfl
    refine puS (i := 11) (N := some 42) (v := ?_) (a' := ?_) rfl rfl (by kernel_rfl) (fun _ _ _ h => h) (Or.inl ⟨by rfl, ?_⟩) ?_ ?_
    rotate_left
    ·intro w'
     go_simp
     with_reducible rfl
    rotate_left
    ·simp only [Act.put, zA, zZ, zS, aH, aI]
     rfl
    refine puS (i := 12) (N := some 43) (v := ?_) (a' := ?_) rfl rfl (by kernel_rfl) (fun _ _ _ h => h) (Or.inl ⟨by rfl, ?_⟩) ?_ ?_
    rotate_left
    ·intro w'
     go_simp
     with_reducible rfl
    rotate_left
    ·simp only [Act.put, zA, zZ, zS, aH, aI]
     rfl
    refine laS (i := 13) (N := some 44) rfl rfl (by kernel_rfl) (by decide) (fun K hK => ?_)
    refine tH Tryz.func72 (by kernel_rfl) rfl #[.pointer (some ⟨gl, 0, none⟩), .agg #[.slice A3 D.1.length c3, .bool D.2.1, .int .i64 D.2.2.1, .int .i64 D.2.2.2.1], .int .i64 D.2.2.2.2] (by rfl) rfl rfl (by simp only [List.map_toArray, List.map_cons, List.map_nil]; rfl) ?_
    refine (qF gl A c L A3 c3 D (rs := oJ A3 c3 D.1 :: (row k67 67 (.slice A (L.l).length c) L.l :: box gf [.slice A1 nr c1, .int .u64 (n : Int), .int .u64 (F.next : Int), .string tn, .int .i64 ta, .slice A2 g.length c2] 129 :: box gv [.pointer (some ⟨gl, 0, none⟩)] 131 :: row dY 139 (.slice Aq (ps).length cq) ps :: ts)) ⟨HN3.out.iP⟩).mono ?_
    rintro e w4 ⟨hE, H4⟩
    rcases hE with ⟨hz, rfl⟩ | ⟨hnz, rfl⟩
    rotate_left
    ·refine .inr ⟨_, rfl, ?_⟩
     show _ ∧ _
     have hOD : iD L0 F n = (chg L D, D.2.2.2.2) := by rw [iD, ← HG.out, HRR.out, if_pos rfl, HCT.out, if_neg hnz]
     rw [hOD, ← HG.out]
     exact ⟨rfl, .inr ⟨hnz, rfl⟩, A3, c3, ⟨H4.out.drop2⟩⟩
    refine .inl ⟨_, rfl, ?_⟩
    refine hK.out _ _ ?_
    clear hK K
    refine fU (a' := ?_) ?_ ?_
    rotate_left
    ·show Act.put _ (some 44) _ = _
     simp only [Act.put, zA, zZ, zS, aH, aI]
     rfl
    refine jM (by kernel_rfl) ?_
    clear c_l z_l c_f c_v H
    have H : aA (Sep b w4 (box gl [.slice A3 D.1.length c3, .bool D.2.1, .int .i64 D.2.2.1, .int .i64 D.2.2.2.1, .int .i64 L.size, .int .u64 L.fr, .int .u64 L.nx, .bool (if D.2.2.2.2 = 0 then L.br else true)] 134 :: row k67 67 (.slice A3 (D.1).length c3) D.1 :: box gf [.slice A1 nr c1, .int .u64 (n : Int), .int .u64 (F.next : Int), .string tn, .int .i64 ta, .slice A2 g.length c2] 129 :: box gv [.pointer (some ⟨gl, 0, none⟩)] 131 :: row dY 139 (.slice Aq (ps).length cq) ps :: ts)) := ⟨H4.out.drop2⟩
    clear H4 HN3
    have c_l := H.out.cell (g := gl) aJ
    have z_l := H.out.frozen (g := gl) aJ
    have c_f := H.out.cell (g := gf) mem2
    have c_v := H.out.cell (g := gv) mem3
    go_wp2_with (first
 |((with_reducible refine aN (t := 28) (p := 53) rfl ?_);
   refine aZ (rs1 := (box gl [.slice A3 D.1.length c3, .bool D.2.1, .int .i64 D.2.2.1, .int .i64 D.2.2.2.1, .int .i64 L.size, .int .u64 (n : Int), .int .u64 L.nx, .bool (if D.2.2.2.2 = 0 then L.br else true)] 134 :: row k67 67 (.slice A3 (D.1).length c3) D.1 :: box gf [.slice A1 nr c1, .int .u64 (n : Int), .int .u64 (F.next : Int), .string tn, .int .i64 ta, .slice A2 g.length c2] 129 :: box gv [.pointer (some ⟨gl, 0, none⟩)] 131 :: row dY 139 (.slice Aq (ps).length cq) ps :: ts)) rfl (t := 28) (p := 53) rfl rfl ?hr (H1 := (Sep.set0 H.out 5 (.int .u64 (n : Int)) rfl)) ?_;
   (case hr => first | (go_simp; done) | (go_simp; rfl));
   intro wd3 n_;
   clear H c_l z_l c_f c_v;
   have H := n_;
   clear n_;
   have c_l := H.out.cell (g := gl) aJ;
   have z_l := H.out.frozen (g := gl) aJ;
   have c_f := H.out.cell (g := gf) mem2;
   have c_v := H.out.cell (g := gv) mem3)
 |((with_reducible refine aN (t := 28) (p := 56) rfl ?_);
   refine aZ (rs1 := (box gl [.slice A3 D.1.length c3, .bool D.2.1, .int .i64 D.2.2.1, .int .i64 D.2.2.2.1, .int .i64 L.size, .int .u64 (n : Int), .int .u64 (F.next : Int), .bool (if D.2.2.2.2 = 0 then L.br else true)] 134 :: row k67 67 (.slice A3 (D.1).length c3) D.1 :: box gf [.slice A1 nr c1, .int .u64 (n : Int), .int .u64 (F.next : Int), .string tn, .int .i64 ta, .slice A2 g.length c2] 129 :: box gv [.pointer (some ⟨gl, 0, none⟩)] 131 :: row dY 139 (.slice Aq (ps).length cq) ps :: ts)) rfl (t := 28) (p := 56) rfl rfl ?hr (H1 := (Sep.set0 H.out 6 (.int .u64 (F.next : Int)) rfl)) ?_;
   (case hr => first | (go_simp; done) | (go_simp; rfl));
   intro wd4 n_;
   clear H c_l z_l c_f c_v;
   have H := n_;
   clear n_;
   have c_l := H.out.cell (g := gl) aJ;
   have z_l := H.out.frozen (g := gl) aJ;
   have c_f := H.out.cell (g := gf) mem2;
   have c_v := H.out.cell (g := gv) mem3)
 |fail)
    go_end0
    have hOD : iD L0 F n = ({ chg L D with fr := (n : Int), nx := (F.next : Int) }, 0) := by
     rw [iD, ← HG.out, HRR.out, if_pos rfl, HCT.out, if_pos hz]
    rw [hOD, ← HG.out]
    exact ⟨.inl ⟨rfl, rfl⟩, A3, c3, H⟩
theorem yA {b : World} {gl fdo : Nat} {lb : Array Value} {L : Lg} {rs : List Res} {R : Lg} {n : Int} (h : MZ b gl fdo lb L rs R n) (more : List Res) : MZ b gl fdo lb L (rs ++ more) R n := by
 intro A c w ts H
 rw [List.append_assoc] at H ⊢
 exact h A c w (more ++ ts) H
theorem OW (S : Sum) (ps : List Pl) (n : Nat) : (goF S ps n).gone.length ≤ ps.length := by
 obtain ⟨kept, ds, m, hc, hh⟩ := xW S ps n
 rcases hh with ⟨_, a2, _⟩ | ⟨p, e, dt, _, a2, _⟩
 ·have := congrArg List.length a2
  rw [List.length_append] at this
  omega
 ·have := congrArg List.length a2
  rw [List.length_append, List.length_cons] at this
  omega
theorem iI {b w : World} {rs : List Res} (H : Sep b w rs) {i j g g' : Nat} {cs cs' : List Value} {t t' : TypeId} (hi : rs[i]? = some (box g cs t)) (hj : rs[j]? = some (box g' cs' t')) (hij : i < j) : ¬ g = g' := by
 obtain ⟨h1, e1⟩ := List.getElem?_eq_some_iff.1 hi
 obtain ⟨h2, e2⟩ := List.getElem?_eq_some_iff.1 hj
 have h := List.pairwise_iff_getElem.1 H.apart i j h1 h2 hij
 rw [e1, e2] at h
 exact fun e => h g rfl e
def Lz : Lg := ⟨[], false, 0, 0, 0, 0, 0, false⟩
noncomputable def findF (l : List S67) : fG.Fd := goF SU (aK l) (dL (aK l))
noncomputable def iR (l : List S67) (dn : Bool) (fu fa size : Int) : Lg × List S62 × Int :=
 if bF l = true then
  if size < 1 ∨ 262144 < size then (Lz, [], 2)
  else if dn = true then (Lz, [], 17)
  else ((iD ⟨l, dn, fu, fa, size, 0, 0, false⟩ (findF l) (dL (aK l))).1, if (iD ⟨l, dn, fu, fa, size, 0, 0, false⟩ (findF l) (dL (aK l))).2 = 0 then bM (findF l).recs (dL (aK l)) else [],
   (iD ⟨l, dn, fu, fa, size, 0, 0, false⟩ (findF l) (dL (aK l))).2)
 else (Lz, [], 6)
set_option maxHeartbeats 8000000 in
theorem open_any (A : Option Addr) (c : Nat) (l : List S67) (dn : Bool) (fu fa size : Int) (w : World) (hr : Kd.C k67 w A l.length l) (hc : l.length ≤ c) (hG : Gl w) :
  Calls Tryz.prog 26 #[.agg #[.slice A l.length c, .bool dn, .int .i64 fu, .int .i64 fa], .int .i64 size] w fun e w' => ∃ A' c' A2 c2, e = .returned (.tuple #[.agg (lgc A' c' (iR l dn fu fa size).1).toArray, .slice A2 (iR l dn fu fa size).2.1.length c2, .int .i64 (iR l dn fu fa size).2.2])
   ∧ aA (Sep w w' [oJ A' c' (iR l dn fu fa size).1.l, row k62 62 (.slice A2 (iR l dn fu fa size).2.1.length c2) (iR l dn fu fa size).2.1]) := by
 have HRp := aA.mk hr
 have HCp := aA.mk hc
 have HG := aA.mk hG
 have HMX := aA.mk (Kd.WE hr)
 clear hr hc hG
 obtain ⟨O, hO⟩ : ∃ O, O = iR l dn fu fa size := ⟨_, rfl⟩
 rw [← hO]
 have HO := aA.mk hO
 clear hO
 have H := aA.mk (Sep.start w)
 go_enter Tryz.func26, Tryz.ntmps26
 go_wp2_with (first
 |((with_reducible refine aP (N := 2) rfl ?_);
   refine bG rfl H (cs := [.slice A l.length c, .bool dn, .int .i64 fu, .int .i64 fa]) (t := 27) ?hr ?_;
   (case hr => first | (go_simp; done) | (go_simp; rfl));
   intro gd wd1 n_;
   simp only [Act.put, zA, zZ, zS];
   clear H;
   have H := n_;
   clear n_;
   have c_d := H.out.cell (g := gd) aJ)
 |((with_reducible refine aP (N := 4) rfl ?_);
   refine bG rfl H (cs := [.slice none 0 0, .bool false, .int .i64 0, .int .i64 0, .int .i64 0, .int .u64 0, .int .u64 0, .bool false]) (t := 30) ?hr ?_;
   (case hr => first | (go_simp; done) | (go_simp; rfl));
   intro gz wd2 n_;
   simp only [Act.put, zA, zZ, zS];
   clear H c_d;
   have H := n_;
   clear n_;
   have c_z := H.out.cell (g := gz) aJ;
   have c_d := H.out.cell (g := gd) mem1)
 |fail)
 by_cases hok : bF l = true
 ·
  refine ((dK.calls A c l dn fu fa 0 _ (H.out.came HRp.out) HCp.out (by rw [dK.f, if_pos hok])).mono ?_)
  rintro e wd3 ⟨rfl, hb_⟩
  have n_ : aA (Sep w wd3 [box gz [.slice none 0 0, .bool false, .int .i64 0, .int .i64 0, .int .i64 0, .int .u64 0, .int .u64 0, .bool false] 30, box gd [.slice A l.length c, .bool dn, .int .i64 fu, .int .i64 fa] 27]) := ⟨H.out.step hb_⟩
  clear H c_z c_d
  have H := n_
  clear n_
  have c_z := H.out.cell (g := gz) aJ
  have c_d := H.out.cell (g := gd) mem1
  clear hb_
  have HOK := aA.mk hok
  have hlen : l.length ≤ 64 := kK hok
  clear hok
  by_cases hsz : size < 1 ∨ 262144 < size
  ·
   have HSZ := aA.mk hsz
   by_cases hs1 : size < 1
   ·
    clear hsz
    have hOV : O = (Lz, [], 2) := by rw [HO.out, iR, if_pos HOK.out, if_pos HSZ.out]
    clear HO
    clear c_z c_d
    have c_z := H.out.cell (g := gz) aJ
    have z_z := H.out.frozen (g := gz) aJ
    have c_d := H.out.cell (g := gd) mem1
    go_wp2_with (first
 |((with_reducible refine aN (t := 30) (p := 4) rfl ?_);
   refine aZ (rs1 := [box gz [.slice none 0 0, .bool false, .int .i64 0, .int .i64 0, .int .i64 0, .int .u64 0, .int .u64 0, .bool false] 30, box gd [.slice A l.length c, .bool dn, .int .i64 fu, .int .i64 fa] 27]) rfl (t := 30) (p := 4) rfl rfl ?hr (H1 := (Sep.set0 (Sep.set0 (Sep.set0 (Sep.set0 (Sep.set0 (Sep.set0 (Sep.set0 (Sep.set0 H.out 0 (.slice none 0 0) rfl) 1 (.bool false) rfl) 2 (.int .i64 0) rfl) 3 (.int .i64 0) rfl) 4 (.int .i64 0) rfl) 5 (.int .u64 0) rfl) 6 (.int .u64 0) rfl) 7 (.bool false) rfl)) ?_;
   (case hr => first | (go_simp; done) | (go_simp; rfl));
   intro wd4 n_;
   clear H c_z z_z c_d;
   have H := n_;
   clear n_;
   have c_z := H.out.cell (g := gz) aJ;
   have z_z := H.out.frozen (g := gz) aJ;
   have c_d := H.out.cell (g := gd) mem1)
 |fail)
    refine bodyPost_ret (dB (rs := [.cell 4 30, .tmp 5, .tmp 6]) rfl (by simp) (.cell gz 30 _ _ _ rfl (H.out.jK (g := gz) aJ) Tryz.underlying30 rfl info30 (.tmp (.tmp .nil)))) rfl ?_
    subst hOV
    exact ⟨none, 0, none, 0, rfl, ⟨Sep.eG (Sep.eG (Sep.dV (Sep.drop1 H.out)))⟩⟩
   ·
    have hs2 : 262144 < size := by omega
    clear hsz
    have hOV : O = (Lz, [], 2) := by rw [HO.out, iR, if_pos HOK.out, if_pos HSZ.out]
    clear HO
    clear c_z c_d
    have c_z := H.out.cell (g := gz) aJ
    have z_z := H.out.frozen (g := gz) aJ
    have c_d := H.out.cell (g := gd) mem1
    go_wp2_with (first
 |((with_reducible refine aN (t := 30) (p := 4) rfl ?_);
   refine aZ (rs1 := [box gz [.slice none 0 0, .bool false, .int .i64 0, .int .i64 0, .int .i64 0, .int .u64 0, .int .u64 0, .bool false] 30, box gd [.slice A l.length c, .bool dn, .int .i64 fu, .int .i64 fa] 27]) rfl (t := 30) (p := 4) rfl rfl ?hr (H1 := (Sep.set0 (Sep.set0 (Sep.set0 (Sep.set0 (Sep.set0 (Sep.set0 (Sep.set0 (Sep.set0 H.out 0 (.slice none 0 0) rfl) 1 (.bool false) rfl) 2 (.int .i64 0) rfl) 3 (.int .i64 0) rfl) 4 (.int .i64 0) rfl) 5 (.int .u64 0) rfl) 6 (.int .u64 0) rfl) 7 (.bool false) rfl)) ?_;
   (case hr => first | (go_simp; done) | (go_simp; rfl));
   intro wd5 n_;
   clear H c_z z_z c_d;
   have H := n_;
   clear n_;
   have c_z := H.out.cell (g := gz) aJ;
   have z_z := H.out.frozen (g := gz) aJ;
   have c_d := H.out.cell (g := gd) mem1)
 |fail)
    refine bodyPost_ret (dB (rs := [.cell 4 30, .tmp 5, .tmp 6]) rfl (by simp) (.cell gz 30 _ _ _ rfl (H.out.jK (g := gz) aJ) Tryz.underlying30 rfl info30 (.tmp (.tmp .nil)))) rfl ?_
    subst hOV
    exact ⟨none, 0, none, 0, rfl, ⟨Sep.eG (Sep.eG (Sep.dV (Sep.drop1 H.out)))⟩⟩
  ·
   have HSZ := aA.mk hsz
   have hs1 : ¬ size < 1 := by omega
   have hs2 : ¬ 262144 < size := by omega
   clear hsz
   cases dn with
   | true =>
    have hOV : O = (Lz, [], 17) := by rw [HO.out, iR, if_pos HOK.out, if_neg HSZ.out, if_pos rfl]
    clear HO
    clear c_z c_d
    have c_z := H.out.cell (g := gz) aJ
    have z_z := H.out.frozen (g := gz) aJ
    have c_d := H.out.cell (g := gd) mem1
    go_wp2_with (first
 |((with_reducible refine aN (t := 30) (p := 4) rfl ?_);
   refine aZ (rs1 := [box gz [.slice none 0 0, .bool false, .int .i64 0, .int .i64 0, .int .i64 0, .int .u64 0, .int .u64 0, .bool false] 30, box gd [.slice A l.length c, .bool true, .int .i64 fu, .int .i64 fa] 27]) rfl (t := 30) (p := 4) rfl rfl ?hr (H1 := (Sep.set0 (Sep.set0 (Sep.set0 (Sep.set0 (Sep.set0 (Sep.set0 (Sep.set0 (Sep.set0 H.out 0 (.slice none 0 0) rfl) 1 (.bool false) rfl) 2 (.int .i64 0) rfl) 3 (.int .i64 0) rfl) 4 (.int .i64 0) rfl) 5 (.int .u64 0) rfl) 6 (.int .u64 0) rfl) 7 (.bool false) rfl)) ?_;
   (case hr => first | (go_simp; done) | (go_simp; rfl));
   intro wd6 n_;
   clear H c_z z_z c_d;
   have H := n_;
   clear n_;
   have c_z := H.out.cell (g := gz) aJ;
   have z_z := H.out.frozen (g := gz) aJ;
   have c_d := H.out.cell (g := gd) mem1)
 |fail)
    refine bodyPost_ret (dB (rs := [.cell 4 30, .tmp 5, .tmp 6]) rfl (by simp) (.cell gz 30 _ _ _ rfl (H.out.jK (g := gz) aJ) Tryz.underlying30 rfl info30 (.tmp (.tmp .nil)))) rfl ?_
    subst hOV
    exact ⟨none, 0, none, 0, rfl, ⟨Sep.eG (Sep.eG (Sep.dV (Sep.drop1 H.out)))⟩⟩
   | false =>
    obtain ⟨ps, hps⟩ : ∃ ps, ps = aK l := ⟨_, rfl⟩
    have HPS := aA.mk hps
    obtain ⟨n0, hn0⟩ : ∃ n0, n0 = dL ps := ⟨_, rfl⟩
    obtain ⟨F, hF⟩ : ∃ F, F = goF SU ps n0 := ⟨_, rfl⟩
    have HF := aA.mk hF
    have HFN := aA.mk (fun A c w hr hc hG => (qbz A c l false fu fa w hr hc HOK.out hG))
    rw [← hps, ← hn0, ← hF] at HFN
    have hgl : F.gone.length ≤ 64 := by
     have h1 := OW SU ps n0
     rw [← hF] at h1
     have h2 := oZ l
     rw [← hps] at h2
     omega
    have HTN : aA (∀ x, F.qY = some x → x.1.1.f0.toList ≠ []) := ⟨fun x hx => (pJ HOK.out HPS.out (SS (S := SU) (n := n0) (x := x) (by rw [← hF]; exact hx))).2.2⟩
    obtain ⟨R, hR⟩ : ∃ R, R = iD ⟨l, false, fu, fa, size, 0, 0, false⟩ F n0 := ⟨_, rfl⟩
    have HR := aA.mk hR
    have hOV : O = (R.1, if R.2 = 0 then bM F.recs n0 else [], R.2) := by
     rw [HO.out, iR, if_pos HOK.out, if_neg HSZ.out, if_neg (by simp), findF, ← hps, ← hn0, ← hF, ← hR]
    have HOV := aA.mk hOV
    clear HO hps hn0 hF hR hOV
    go_wp2_with fail
    refine ((HFN.out A c _ (H.out.came HRp.out) HCp.out (HG.out.below H.out.below)).mono ?_)
    rintro e wd7 ⟨A1, c1, A2, c2, Aq, cq, rfl, HJ, hC, hc2⟩
    have n_ : aA (Sep w wd7 [row k62 62 (.slice A1 ((bM F.recs n0)).length c1) ((bM F.recs n0)), row dY 139 (.slice Aq (ps).length cq) ps, box gz [.slice none 0 0, .bool false, .int .i64 0, .int .i64 0, .int .i64 0, .int .u64 0, .int .u64 0, .bool false] 30, box gd [.slice A l.length c, .bool false, .int .i64 fu, .int .i64 fa] 27]) := ⟨eY H.out HJ.out⟩
    clear H c_z c_d
    have H := n_
    clear n_
    have c_z := H.out.cell (g := gz) mem2
    have c_d := H.out.cell (g := gd) mem3
    clear HJ
    have HC := aA.mk hC
    clear hC
    obtain ⟨tn, htn⟩ : ∃ tn, tn = pX F.qY := ⟨_, rfl⟩
    obtain ⟨ta, hta⟩ : ∃ ta, ta = xY F.qY := ⟨_, rfl⟩
    rw [← htn, ← hta]
    have HTM := aA.mk htn.symm
    have HTA := aA.mk hta.symm
    clear htn hta
    go_wp2_with (first
 |((with_reducible refine aP (N := 8) rfl ?_);
   refine bG rfl H (cs := [.slice none 0 0, .int .u64 0, .int .u64 0, .string ⟨#[]⟩, .int .i64 0, .slice none 0 0]) (t := 129) ?hr ?_;
   (case hr => first | (go_simp; done) | (go_simp; rfl));
   intro gf wd8 n_;
   simp only [Act.put, zA, zZ, zS];
   clear H c_z c_d;
   have H := n_;
   clear n_;
   have c_f := H.out.cell (g := gf) aJ;
   have z_f := H.out.frozen (g := gf) aJ;
   have c_z := H.out.cell (g := gz) mem3;
   have c_d := H.out.cell (g := gd) bK)
 |((with_reducible refine aN (t := 129) (p := 8) rfl ?_);
   refine aZ (rs1 := [box gf [.slice A1 (bM F.recs n0).length c1, .int .u64 (n0 : Int), .int .u64 (F.next : Int), .string tn, .int .i64 ta, .slice A2 F.gone.length c2] 129, row k62 62 (.slice A1 ((bM F.recs n0)).length c1) ((bM F.recs n0)), row dY 139 (.slice Aq (ps).length cq) ps, box gz [.slice none 0 0, .bool false, .int .i64 0, .int .i64 0, .int .i64 0, .int .u64 0, .int .u64 0, .bool false] 30, box gd [.slice A l.length c, .bool false, .int .i64 fu, .int .i64 fa] 27]) rfl (t := 129) (p := 8) rfl rfl ?hr (H1 := (Sep.set0 (Sep.set0 (Sep.set0 (Sep.set0 (Sep.set0 (Sep.set0 H.out 0 (.slice A1 (bM F.recs n0).length c1) rfl) 1 (.int .u64 (n0 : Int)) rfl) 2 (.int .u64 (F.next : Int)) rfl) 3 (.string tn) rfl) 4 (.int .i64 ta) rfl) 5 (.slice A2 F.gone.length c2) rfl)) ?_;
   (case hr => first | (go_simp; done) | (go_simp; rfl));
   intro wd9 n_;
   clear H c_f z_f c_z c_d;
   have H := n_;
   clear n_;
   have c_f := H.out.cell (g := gf) aJ;
   have z_f := H.out.frozen (g := gf) aJ;
   have c_z := H.out.cell (g := gz) mem3;
   have c_d := H.out.cell (g := gd) bK)
 |fail)
    refine ((OT A c l false fu fa _ (H.out.came HRp.out) hlen).mono ?_)
    rintro e FC ⟨A3, c3, rfl, HJ⟩
    have n_ : aA (Sep w FC [row k67 67 (.slice A3 (l).length c3) l, box gf [.slice A1 (bM F.recs n0).length c1, .int .u64 (n0 : Int), .int .u64 (F.next : Int), .string tn, .int .i64 ta, .slice A2 F.gone.length c2] 129, row k62 62 (.slice A1 ((bM F.recs n0)).length c1) ((bM F.recs n0)), row dY 139 (.slice Aq (ps).length cq) ps, box gz [.slice none 0 0, .bool false, .int .i64 0, .int .i64 0, .int .i64 0, .int .u64 0, .int .u64 0, .bool false] 30, box gd [.slice A l.length c, .bool false, .int .i64 fu, .int .i64 fa] 27]) := ⟨eY H.out HJ.out⟩
    clear H c_f z_f c_z c_d
    have H := n_
    clear n_
    have c_f := H.out.cell (g := gf) mem1
    have z_f := H.out.frozen (g := gf) mem1
    have c_z := H.out.cell (g := gz) bK
    have c_d := H.out.cell (g := gd) dJ
    clear HJ
    go_wp2_with (first
 |((with_reducible refine aP (N := 37) rfl ?_);
   refine bG rfl H (cs := [.slice A3 l.length c3, .bool false, .int .i64 fu, .int .i64 fa, .int .i64 size, .int .u64 0, .int .u64 0, .bool false]) (t := 134) ?hr ?_;
   (case hr => first | (go_simp; done) | (go_simp; rfl));
   intro gl MH n_;
   simp only [Act.put, zA, zZ, zS];
   clear H c_f z_f c_z c_d;
   have H := n_;
   clear n_;
   have c_l := H.out.cell (g := gl) aJ;
   have c_f := H.out.cell (g := gf) mem2;
   have c_z := H.out.cell (g := gz) dJ;
   have c_d := H.out.cell (g := gd) jC)
 |((with_reducible refine aP (N := 9) rfl ?_);
   refine bG rfl H (cs := [.pointer none]) (t := 131) ?hr ?_;
   (case hr => first | (go_simp; done) | (go_simp; rfl));
   intro gv DU n_;
   simp only [Act.put, zA, zZ, zS];
   clear H c_l c_f c_z c_d;
   have H := n_;
   clear n_;
   have c_v := H.out.cell (g := gv) aJ;
   have z_v := H.out.frozen (g := gv) aJ;
   have c_l := H.out.cell (g := gl) mem1;
   have c_f := H.out.cell (g := gf) mem3;
   have c_z := H.out.cell (g := gz) jC;
   have c_d := H.out.cell (g := gd) sD)
 |((with_reducible refine aN (t := 131) (p := 9) rfl ?_);
   refine aZ (rs1 := [box gv [.pointer (some ⟨gl, 0, none⟩)] 131, box gl [.slice A3 l.length c3, .bool false, .int .i64 fu, .int .i64 fa, .int .i64 size, .int .u64 0, .int .u64 0, .bool false] 134, row k67 67 (.slice A3 (l).length c3) l, box gf [.slice A1 (bM F.recs n0).length c1, .int .u64 (n0 : Int), .int .u64 (F.next : Int), .string tn, .int .i64 ta, .slice A2 F.gone.length c2] 129, row k62 62 (.slice A1 ((bM F.recs n0)).length c1) ((bM F.recs n0)), row dY 139 (.slice Aq (ps).length cq) ps, box gz [.slice none 0 0, .bool false, .int .i64 0, .int .i64 0, .int .i64 0, .int .u64 0, .int .u64 0, .bool false] 30, box gd [.slice A l.length c, .bool false, .int .i64 fu, .int .i64 fa] 27]) rfl (t := 131) (p := 9) rfl rfl ?hr (H1 := (Sep.set0 H.out 0 (.pointer (some ⟨gl, 0, none⟩)) rfl)) ?_;
   (case hr => first | (go_simp; done) | (go_simp; rfl));
   intro KI n_;
   clear H c_v z_v c_l c_f c_z c_d;
   have H := n_;
   clear n_;
   have c_v := H.out.cell (g := gv) aJ;
   have z_v := H.out.frozen (g := gv) aJ;
   have c_l := H.out.cell (g := gl) mem1;
   have c_f := H.out.cell (g := gf) mem3;
   have c_z := H.out.cell (g := gz) jC;
   have c_d := H.out.cell (g := gd) sD)
 |fail)
    have hdo := yA (qcQ w gl gf gv ⟨l, false, fu, fa, size, 0, 0, false⟩ F n0 A1 A2 Aq (bM F.recs n0).length c1 c2 cq ps HC.out hgl HTM.out HTN.out HTA.out) [row k62 62 (.slice A1 ((bM F.recs n0)).length c1) ((bM F.recs n0)), box gz [.slice none 0 0, .bool false, .int .i64 0, .int .i64 0, .int .i64 0, .int .u64 0, .int .u64 0, .bool false] 30, box gd [.slice A l.length c, .bool false, .int .i64 fu, .int .i64 fa] 27]
    rw [← HR.out] at hdo
    refine (AV hdo (fun args w => by simp [go_sem]) A3 c3 _ ⟨(Sep.ES (Sep.ES (Sep.ES (Sep.gI (Sep.ES (Sep.pU (Sep.ES (Sep.ES H.out))))))))⟩).mono ?_
    rintro e U2 ⟨A4, c4, rfl, H2⟩
    clear hdo
    have n_ : aA (Sep w U2 [box gl [.slice A4 R.1.l.length c4, .bool R.1.dn, .int .i64 R.1.fu, .int .i64 R.1.fa, .int .i64 R.1.size, .int .u64 R.1.fr, .int .u64 R.1.nx, .bool R.1.br] 134, row k67 67 (.slice A4 (R.1.l).length c4) R.1.l, box gf [.slice A1 (bM F.recs n0).length c1, .int .u64 (n0 : Int), .int .u64 (F.next : Int), .string tn, .int .i64 ta, .slice A2 F.gone.length c2] 129, box gv [.pointer (some ⟨gl, 0, none⟩)] 131, row dY 139 (.slice Aq (ps).length cq) ps, row k62 62 (.slice A1 ((bM F.recs n0)).length c1) ((bM F.recs n0)), box gz [.slice none 0 0, .bool false, .int .i64 0, .int .i64 0, .int .i64 0, .int .u64 0, .int .u64 0, .bool false] 30, box gd [.slice A l.length c, .bool false, .int .i64 fu, .int .i64 fa] 27]) := ⟨H2.out⟩
    clear H c_v z_v c_l c_f c_z c_d
    have H := n_
    clear n_
    have c_l := H.out.cell (g := gl) aJ
    have c_f := H.out.cell (g := gf) mem2
    have c_v := H.out.cell (g := gv) mem3
    have c_z := H.out.cell (g := gz) jC
    have z_z := H.out.frozen (g := gz) jC
    have c_d := H.out.cell (g := gd) sD
    clear H2
    simp only [lgc]
    by_cases hz : R.2 = 0
    ·
     go_wp2_with (first
 |((with_reducible refine aP (N := 10) rfl ?_);
   refine bG rfl H (cs := [.slice none 0 0, .bool false, .int .i64 0, .int .i64 0, .int .i64 0, .int .u64 0, .int .u64 0, .bool false]) (t := 30) ?hr ?_;
   (case hr => first | (go_simp; done) | (go_simp; rfl));
   intro gk OV n_;
   simp only [Act.put, zA, zZ, zS];
   clear H c_l c_f c_v c_z z_z c_d;
   have H := n_;
   clear n_;
   have c_k := H.out.cell (g := gk) aJ;
   have z_k := H.out.frozen (g := gk) aJ;
   have c_l := H.out.cell (g := gl) mem1;
   have c_f := H.out.cell (g := gf) mem3;
   have c_v := H.out.cell (g := gv) bK;
   have c_z := H.out.cell (g := gz) sD;
   have z_z := H.out.frozen (g := gz) sD;
   have c_d := H.out.cell (g := gd) QY)
 |((with_reducible refine aN (t := 30) (p := 10) rfl ?_);
   refine aZ (rs1 := [box gk [.slice A4 R.1.l.length c4, .bool R.1.dn, .int .i64 R.1.fu, .int .i64 R.1.fa, .int .i64 R.1.size, .int .u64 R.1.fr, .int .u64 R.1.nx, .bool R.1.br] 30, box gl [.slice A4 R.1.l.length c4, .bool R.1.dn, .int .i64 R.1.fu, .int .i64 R.1.fa, .int .i64 R.1.size, .int .u64 R.1.fr, .int .u64 R.1.nx, .bool R.1.br] 134, row k67 67 (.slice A4 (R.1.l).length c4) R.1.l, box gf [.slice A1 (bM F.recs n0).length c1, .int .u64 (n0 : Int), .int .u64 (F.next : Int), .string tn, .int .i64 ta, .slice A2 F.gone.length c2] 129, box gv [.pointer (some ⟨gl, 0, none⟩)] 131, row dY 139 (.slice Aq (ps).length cq) ps, row k62 62 (.slice A1 ((bM F.recs n0)).length c1) ((bM F.recs n0)), box gz [.slice none 0 0, .bool false, .int .i64 0, .int .i64 0, .int .i64 0, .int .u64 0, .int .u64 0, .bool false] 30, box gd [.slice A l.length c, .bool false, .int .i64 fu, .int .i64 fa] 27]) rfl (t := 30) (p := 10) rfl rfl ?hr (H1 := (Sep.set0 (Sep.set0 (Sep.set0 (Sep.set0 (Sep.set0 (Sep.set0 (Sep.set0 (Sep.set0 H.out 0 (.slice A4 R.1.l.length c4) rfl) 1 (.bool R.1.dn) rfl) 2 (.int .i64 R.1.fu) rfl) 3 (.int .i64 R.1.fa) rfl) 4 (.int .i64 R.1.size) rfl) 5 (.int .u64 R.1.fr) rfl) 6 (.int .u64 R.1.nx) rfl) 7 (.bool R.1.br) rfl)) ?_;
   (case hr => first | (go_simp; done) | (go_simp; rfl));
   intro qbA n_;
   clear H c_k z_k c_l c_f c_v c_z z_z c_d;
   have H := n_;
   clear n_;
   have c_k := H.out.cell (g := gk) aJ;
   have z_k := H.out.frozen (g := gk) aJ;
   have c_l := H.out.cell (g := gl) mem1;
   have c_f := H.out.cell (g := gf) mem3;
   have c_v := H.out.cell (g := gv) bK;
   have c_z := H.out.cell (g := gz) sD;
   have z_z := H.out.frozen (g := gz) sD;
   have c_d := H.out.cell (g := gd) QY)
 |fail)
     have hne : ¬ gf = gz := iI H.out (i := 3) (j := 7) rfl rfl (by decide)
     have hne2 : ¬ gz = gf := fun e => hne e.symm
     have c_f := H.out.cell (g := gf) mem3
     go_region
     clear c_f hne hne2
     refine qQ (rs := [box gk [.slice A4 R.1.l.length c4, .bool R.1.dn, .int .i64 R.1.fu, .int .i64 R.1.fa, .int .i64 R.1.size, .int .u64 R.1.fr, .int .u64 R.1.nx, .bool R.1.br] 30, box gl [.slice A4 R.1.l.length c4, .bool R.1.dn, .int .i64 R.1.fu, .int .i64 R.1.fa, .int .i64 R.1.size, .int .u64 R.1.fr, .int .u64 R.1.nx, .bool R.1.br] 134, row k67 67 (.slice A4 (R.1.l).length c4) R.1.l, box gf [.slice A1 (bM F.recs n0).length c1, .int .u64 (n0 : Int), .int .u64 (F.next : Int), .string tn, .int .i64 ta, .slice A2 F.gone.length c2] 129, box gv [.pointer (some ⟨gl, 0, none⟩)] 131, row dY 139 (.slice Aq (ps).length cq) ps, row k62 62 (.slice A1 ((bM F.recs n0)).length c1) ((bM F.recs n0)), box gz [.slice A4 R.1.l.length c4, .bool R.1.dn, .int .i64 R.1.fu, .int .i64 R.1.fa, .int .i64 R.1.size, .int .u64 R.1.fr, .int .u64 R.1.nx, .bool R.1.br] 30, box gd [.slice A l.length c, .bool false, .int .i64 fu, .int .i64 fa] 27]) (Sep.drew (Sep.zC (Sep.zC (Sep.zC (Sep.zC (Sep.zC (Sep.zC (Sep.zC (Sep.zC H.out 0 (.slice A4 R.1.l.length c4) rfl) 1 (.bool R.1.dn) rfl) 2 (.int .i64 R.1.fu) rfl) 3 (.int .i64 R.1.fa) rfl) 4 (.int .i64 R.1.size) rfl) 5 (.int .u64 R.1.fr) rfl) 6 (.int .u64 R.1.nx) rfl) 7 (.bool R.1.br) rfl)) ?_
     intro qbB n_
     clear H c_k z_k c_l c_f c_v c_z z_z c_d
     have H := n_
     clear n_
     have c_k := H.out.cell (g := gk) aJ
     have z_k := H.out.frozen (g := gk) aJ
     have c_l := H.out.cell (g := gl) mem1
     have c_f := H.out.cell (g := gf) mem3
     have c_v := H.out.cell (g := gv) bK
     have c_z := H.out.cell (g := gz) sD
     have z_z := H.out.frozen (g := gz) sD
     have c_d := H.out.cell (g := gd) QY
     go_wp2_with fail
     refine bodyPost_ret (dB (rs := [.cell 4 30, .tmp 5, .tmp 6]) rfl (by simp) (.cell gz 30 _ _ _ rfl (H.out.jK (g := gz) sD) Tryz.underlying30 rfl info30 (.tmp (.tmp .nil)))) rfl ?_
     have h := HOV.out
     rw [if_pos hz, hz] at h
     subst h
     exact ⟨A4, c4, A1, c1, rfl, ⟨(Sep.dV (Sep.drop1 (Sep.gK (Sep.jO (Sep.rV (Sep.qdz (Sep.qdA H.out)))))))⟩⟩
    ·
     go_wp2_with (first
 |((with_reducible refine aP (N := 10) rfl ?_);
   refine bG rfl H (cs := [.slice none 0 0, .bool false, .int .i64 0, .int .i64 0, .int .i64 0, .int .u64 0, .int .u64 0, .bool false]) (t := 30) ?hr ?_;
   (case hr => first | (go_simp; done) | (go_simp; rfl));
   intro gk qai n_;
   simp only [Act.put, zA, zZ, zS];
   clear H c_l c_f c_v c_z z_z c_d;
   have H := n_;
   clear n_;
   have c_k := H.out.cell (g := gk) aJ;
   have z_k := H.out.frozen (g := gk) aJ;
   have c_l := H.out.cell (g := gl) mem1;
   have c_f := H.out.cell (g := gf) mem3;
   have c_v := H.out.cell (g := gv) bK;
   have c_z := H.out.cell (g := gz) sD;
   have z_z := H.out.frozen (g := gz) sD;
   have c_d := H.out.cell (g := gd) QY)
 |((with_reducible refine aN (t := 30) (p := 10) rfl ?_);
   refine aZ (rs1 := [box gk [.slice A4 R.1.l.length c4, .bool R.1.dn, .int .i64 R.1.fu, .int .i64 R.1.fa, .int .i64 R.1.size, .int .u64 R.1.fr, .int .u64 R.1.nx, .bool R.1.br] 30, box gl [.slice A4 R.1.l.length c4, .bool R.1.dn, .int .i64 R.1.fu, .int .i64 R.1.fa, .int .i64 R.1.size, .int .u64 R.1.fr, .int .u64 R.1.nx, .bool R.1.br] 134, row k67 67 (.slice A4 (R.1.l).length c4) R.1.l, box gf [.slice A1 (bM F.recs n0).length c1, .int .u64 (n0 : Int), .int .u64 (F.next : Int), .string tn, .int .i64 ta, .slice A2 F.gone.length c2] 129, box gv [.pointer (some ⟨gl, 0, none⟩)] 131, row dY 139 (.slice Aq (ps).length cq) ps, row k62 62 (.slice A1 ((bM F.recs n0)).length c1) ((bM F.recs n0)), box gz [.slice none 0 0, .bool false, .int .i64 0, .int .i64 0, .int .i64 0, .int .u64 0, .int .u64 0, .bool false] 30, box gd [.slice A l.length c, .bool false, .int .i64 fu, .int .i64 fa] 27]) rfl (t := 30) (p := 10) rfl rfl ?hr (H1 := (Sep.set0 (Sep.set0 (Sep.set0 (Sep.set0 (Sep.set0 (Sep.set0 (Sep.set0 (Sep.set0 H.out 0 (.slice A4 R.1.l.length c4) rfl) 1 (.bool R.1.dn) rfl) 2 (.int .i64 R.1.fu) rfl) 3 (.int .i64 R.1.fa) rfl) 4 (.int .i64 R.1.size) rfl) 5 (.int .u64 R.1.fr) rfl) 6 (.int .u64 R.1.nx) rfl) 7 (.bool R.1.br) rfl)) ?_;
   (case hr => first | (go_simp; done) | (go_simp; rfl));
   intro qcN n_;
   clear H c_k z_k c_l c_f c_v c_z z_z c_d;
   have H := n_;
   clear n_;
   have c_k := H.out.cell (g := gk) aJ;
   have z_k := H.out.frozen (g := gk) aJ;
   have c_l := H.out.cell (g := gl) mem1;
   have c_f := H.out.cell (g := gf) mem3;
   have c_v := H.out.cell (g := gv) bK;
   have c_z := H.out.cell (g := gz) sD;
   have z_z := H.out.frozen (g := gz) sD;
   have c_d := H.out.cell (g := gd) QY)
 |((with_reducible refine aN (t := 30) (p := 4) rfl ?_);
   refine aZ (rs1 := [box gk [.slice A4 R.1.l.length c4, .bool R.1.dn, .int .i64 R.1.fu, .int .i64 R.1.fa, .int .i64 R.1.size, .int .u64 R.1.fr, .int .u64 R.1.nx, .bool R.1.br] 30, box gl [.slice A4 R.1.l.length c4, .bool R.1.dn, .int .i64 R.1.fu, .int .i64 R.1.fa, .int .i64 R.1.size, .int .u64 R.1.fr, .int .u64 R.1.nx, .bool R.1.br] 134, row k67 67 (.slice A4 (R.1.l).length c4) R.1.l, box gf [.slice A1 (bM F.recs n0).length c1, .int .u64 (n0 : Int), .int .u64 (F.next : Int), .string tn, .int .i64 ta, .slice A2 F.gone.length c2] 129, box gv [.pointer (some ⟨gl, 0, none⟩)] 131, row dY 139 (.slice Aq (ps).length cq) ps, row k62 62 (.slice A1 ((bM F.recs n0)).length c1) ((bM F.recs n0)), box gz [.slice A4 R.1.l.length c4, .bool R.1.dn, .int .i64 R.1.fu, .int .i64 R.1.fa, .int .i64 R.1.size, .int .u64 R.1.fr, .int .u64 R.1.nx, .bool R.1.br] 30, box gd [.slice A l.length c, .bool false, .int .i64 fu, .int .i64 fa] 27]) rfl (t := 30) (p := 4) rfl rfl ?hr (H1 := (Sep.zC (Sep.zC (Sep.zC (Sep.zC (Sep.zC (Sep.zC (Sep.zC (Sep.zC H.out 0 (.slice A4 R.1.l.length c4) rfl) 1 (.bool R.1.dn) rfl) 2 (.int .i64 R.1.fu) rfl) 3 (.int .i64 R.1.fa) rfl) 4 (.int .i64 R.1.size) rfl) 5 (.int .u64 R.1.fr) rfl) 6 (.int .u64 R.1.nx) rfl) 7 (.bool R.1.br) rfl)) ?_;
   (case hr => first | (go_simp; done) | (go_simp; rfl));
   intro qek n_;
   clear H c_k z_k c_l c_f c_v c_z z_z c_d;
   have H := n_;
   clear n_;
   have c_k := H.out.cell (g := gk) aJ;
   have z_k := H.out.frozen (g := gk) aJ;
   have c_l := H.out.cell (g := gl) mem1;
   have c_f := H.out.cell (g := gf) mem3;
   have c_v := H.out.cell (g := gv) bK;
   have c_z := H.out.cell (g := gz) sD;
   have z_z := H.out.frozen (g := gz) sD;
   have c_d := H.out.cell (g := gd) QY)
 |fail)
     refine bodyPost_ret (dB (rs := [.cell 4 30, .tmp 5, .tmp 6]) rfl (by simp) (.cell gz 30 _ _ _ rfl (H.out.jK (g := gz) sD) Tryz.underlying30 rfl info30 (.tmp (.tmp .nil)))) rfl ?_
     have h := HOV.out
     rw [if_neg hz] at h
     subst h
     exact ⟨A4, c4, none, 0, rfl, ⟨Sep.iP (Sep.eG (Sep.dV (Sep.drop1 (Sep.gK (Sep.jO (Sep.rV (Sep.xA (Sep.qdz (Sep.qdA H.out)))))))))⟩⟩
 ·
  refine ((dK.calls A c l dn fu fa 6 _ (H.out.came HRp.out) HCp.out (by rw [dK.f, if_neg hok])).mono ?_)
  rintro e qbC ⟨rfl, hb_⟩
  have n_ : aA (Sep w qbC [box gz [.slice none 0 0, .bool false, .int .i64 0, .int .i64 0, .int .i64 0, .int .u64 0, .int .u64 0, .bool false] 30, box gd [.slice A l.length c, .bool dn, .int .i64 fu, .int .i64 fa] 27]) := ⟨H.out.step hb_⟩
  clear H c_z c_d
  have H := n_
  clear n_
  have c_z := H.out.cell (g := gz) aJ
  have c_d := H.out.cell (g := gd) mem1
  clear hb_
  have HOK := aA.mk hok
  clear hok
  have hOV : O = (Lz, [], 6) := by rw [HO.out, iR, if_neg HOK.out]
  clear HO
  clear c_z c_d
  have c_z := H.out.cell (g := gz) aJ
  have z_z := H.out.frozen (g := gz) aJ
  have c_d := H.out.cell (g := gd) mem1
  go_wp2_with (first
 |((with_reducible refine aN (t := 30) (p := 4) rfl ?_);
   refine aZ (rs1 := [box gz [.slice none 0 0, .bool false, .int .i64 0, .int .i64 0, .int .i64 0, .int .u64 0, .int .u64 0, .bool false] 30, box gd [.slice A l.length c, .bool dn, .int .i64 fu, .int .i64 fa] 27]) rfl (t := 30) (p := 4) rfl rfl ?hr (H1 := (Sep.set0 (Sep.set0 (Sep.set0 (Sep.set0 (Sep.set0 (Sep.set0 (Sep.set0 (Sep.set0 H.out 0 (.slice none 0 0) rfl) 1 (.bool false) rfl) 2 (.int .i64 0) rfl) 3 (.int .i64 0) rfl) 4 (.int .i64 0) rfl) 5 (.int .u64 0) rfl) 6 (.int .u64 0) rfl) 7 (.bool false) rfl)) ?_;
   (case hr => first | (go_simp; done) | (go_simp; rfl));
   intro qel n_;
   clear H c_z z_z c_d;
   have H := n_;
   clear n_;
   have c_z := H.out.cell (g := gz) aJ;
   have z_z := H.out.frozen (g := gz) aJ;
   have c_d := H.out.cell (g := gd) mem1)
 |fail)
  refine bodyPost_ret (dB (rs := [.cell 4 30, .tmp 5, .tmp 6]) rfl (by simp) (.cell gz 30 _ _ _ rfl (H.out.jK (g := gz) aJ) Tryz.underlying30 rfl info30 (.tmp (.tmp .nil)))) rfl ?_
  subst hOV
  exact ⟨none, 0, none, 0, rfl, ⟨Sep.eG (Sep.eG (Sep.dV (Sep.drop1 H.out)))⟩⟩
end Go.Proofs.U
namespace Go.Proofs.U
open Go.RowKit Go.Proofs.YW.PrintWords Go.Proofs.YW.PrintLast Go.Proofs.YW.PrintMore
def Good (l : List S67) (s : ByteArray) (l' : List S67) : Prop := bF l' = true ∧ ∀ x : S67, x.f0.toList ≠ s.toList → (x ∈ l' ↔ x ∈ l)
theorem KJ {l : List S67} (h : bF l = true) {s : ByteArray} {x y : S67} (hx : l[bsOf l s]? = some x) (e : x.f0.toList = s.toList) (hn : y.f0 = x.f0) (hy : GN y) : Good l s (l.set (bsOf l s) y) :=
 ⟨Z7 h hx hn hy, fun z hz => mem_set h hx hn (by rw [e]; exact hz)⟩
theorem G5 {l : List S67} {s : ByteArray} (h : bF l = true) (hrf : rfC s l.length (bsOf l s) (kR l s (bsOf l s)) = 0) : Good l s (l.take (bsOf l s) ++ [(⟨s, ⟨#[]⟩, 0⟩ : S67)] ++ l.drop (bsOf l s)) := by
 unfold rfC at hrf
 split at hrf
 ·cases hrf
 rename_i h1
 split at hrf
 ·cases hrf
 rename_i h2
 split at hrf
 ·cases hrf
 rename_i h3
 simp only [not_or] at h1
 refine ⟨Z8 h (by simpa using h2) ⟨show s.size ≤ 4096 by omega, show (⟨#[]⟩ : ByteArray).size ≤ 262144 by decide, show (0 : Int) ≤ 0 by decide, show (0 : Int) ≤ ((⟨#[]⟩ : ByteArray).size : Int) by decide⟩ rfl h1.1 (by omega), fun x hx => ?_⟩
 rw [I4]
 constructor
 ·rintro (rfl | g)
  ·exact absurd rfl hx
  ·exact g
 ·exact .inr
theorem qbE {l : List S67} {s : ByteArray} (h : bF l = true) (hi : kR l s (bsOf l s) = true) : ∃ x, l[bsOf l s]? = some x ∧ x.f0.toList = s.toList := (vG _ _ _).1 hi
theorem yB {l : List S67} {s : ByteArray} (h : bF l = true) (d : ByteArray) (hrf : rfW d l (bsOf l s) (kR l s (bsOf l s)) = 0) : Good l s (l.set (bsOf l s : Int).toNat ⟨(dX l (bsOf l s)).f0, (dX l (bsOf l s)).f1 ++ d, (dX l (bsOf l s)).f2⟩) := by
 unfold rfW at hrf
 split at hrf
 ·rename_i hi
  obtain ⟨x, hx, e⟩ := qbE h hi
  rw [iC hx] at hrf
  split at hrf
  ·cases hrf
  rename_i hs
  simp only [Int.toNat_natCast, iC hx]
  have hok := o8 h hx
  exact KJ h hx e rfl ⟨hok.1, by simp only [ByteArray.size_append]; omega, hok.2.2.1, by simp only [ByteArray.size_append]; have := hok.2.2.2; omega⟩
 ·cases hrf
theorem NG {l : List S67} {s : ByteArray} (h : bF l = true) (hi : kR l s (bsOf l s) = true) : Good l s (l.set (bsOf l s : Int).toNat ⟨(dX l (bsOf l s)).f0, (dX l (bsOf l s)).f1, ((dX l (bsOf l s)).f1.size : Int)⟩) := by
 obtain ⟨x, hx, e⟩ := qbE h hi
 simp only [Int.toNat_natCast, iC hx]
 have hok := o8 h hx
 exact KJ h hx e rfl ⟨hok.1, hok.2.1, by simp, Int.le_refl _⟩
theorem qbF {l : List S67} {s : ByteArray} (h : bF l = true) (n : Int) (hrf : rfT n l (bsOf l s) (kR l s (bsOf l s)) = 0) : Good l s (l.set (bsOf l s : Int).toNat ⟨(dX l (bsOf l s)).f0, (dX l (bsOf l s)).f1.extract 0 n.toNat, n⟩) := by
 unfold rfT at hrf
 split at hrf
 ·rename_i hi
  obtain ⟨x, hx, e⟩ := qbE h hi
  rw [iC hx] at hrf
  split at hrf
  ·cases hrf
  rename_i hs
  simp only [Int.toNat_natCast, iC hx]
  have hok := o8 h hx
  refine KJ h hx e rfl ⟨hok.1, ?_, show 0 ≤ n by omega, ?_⟩
  ·simp only [ByteArray.size_extract]; omega
  ·simp only [ByteArray.size_extract]; omega
 ·cases hrf
end Go.Proofs.U
namespace Go.Proofs.U
open Go.RowKit Go.Proofs.YW.PrintWords Go.Proofs.YW.PrintLast Go.Proofs.YW.PrintMore Go.Proofs.Sp Go.Proofs.fG
theorem yC (n : Int) (w : World) : Calls Tryz.prog 77 #[.bool true, .int .i64 n] w fun e w' => e = .returned (.tuple #[]) ∧ w' = w := by
 go_enter Tryz.func77, Tryz.ntmps77
 go_wp2
 go_end0
 exact ⟨rfl, rfl⟩
theorem DV (n : Int) (w : World) : Calls Tryz.prog 77 #[.bool false, .int .i64 n] w fun e w' => e = .panicked [{ v := .iface 34 (.int .i64 n), recovered := false }] ∧ w' = w := by
 go_enter Tryz.func77, Tryz.ntmps77
 go_wp2
 exact ⟨rfl, rfl, rfl⟩
def nameB (n : Nat) : ByteArray := ⟨(hexN 16 n).toArray⟩
noncomputable def wL (l : List S67) : Option Pl := (aK l).getLast?
noncomputable def rP (l : List S67) : ByteArray := match wL l with | none => ⟨#[]⟩ | some p => p.1.f0
def isFull (L : Lg) (k : Nat) : Prop := match wL L.l with | none => True | some p => L.size ≤ (p.1.f1.size : Int) ∨ 262144 < p.1.f1.size + k
noncomputable def jD (L : Lg) (k : Nat) : Lg × Int := open Classical in if isFull L k then (chg L (jW L.l L.dn L.fu L.fa (nameB L.nx.toNat)), (jW L.l L.dn L.fu L.fa (nameB L.nx.toNat)).2.2.2.2) else (L, 0)
def fF (L : Lg) (nm s : ByteArray) : Lg × Int := (chg L (jA L.l L.dn L.fu L.fa nm s), (jA L.l L.dn L.fu L.fa nm s).2.2.2.2)
def stepS (L : Lg) (nm : ByteArray) : Lg × Int := (chg L (tC L.l L.dn L.fu L.fa nm), (tC L.l L.dn L.fu L.fa nm).2.2.2.2)
noncomputable def pY (L : Lg) (s : ByteArray) : Lg × Int :=
 if (fF L (rP L.l) s).2 = 0 then
  if (stepS (fF L (rP L.l) s).1 (rP L.l)).2 = 0 then ({ (stepS (fF L (rP L.l) s).1 (rP L.l)).1 with nx := L.nx + 1 }, 0)
  else stepS (fF L (rP L.l) s).1 (rP L.l)
 else fF L (rP L.l) s
noncomputable def jE (L : Lg) (d : ByteArray) : Lg × Int :=
 if L.br = true then (L, 6)
 else if 65536 < d.size then (L, 4)
 else if 4611686018427387904 ≤ L.nx then (L, 2)
 else if (jD L (dR L.nx d).size).2 = 0 then pY (jD L (dR L.nx d).size).1 (dR L.nx d)
 else jD L (dR L.nx d).size
theorem G7 (n : Nat) (d : ByteArray) : (dR (n : Int) d).size = 16 + d.size := by
 rw [← dD, pG, gZ, dD]
theorem FD {l : List S67} (h : bF l = true) : ∀ x ∈ l, x.f0.size ≤ 65536 := fun x hx => by
 have h2 := (((iH l).1 h).2.1 x hx).1
 omega
theorem U3 {l : List S67} {dn : Bool} {fu fa : Int} {s : ByteArray} {wr : Bool} {rf : Int → Bool → Int} {df : Int → List S67} (h : (bU l dn fu fa s wr rf df).2.2.2.2 = 0) :
  bF l = true ∧ dn = false ∧ rf (bsOf l s) (kR l s (bsOf l s)) = 0 ∧ (bU l dn fu fa s wr rf df).1 = df (bsOf l s) := by
 unfold bU at h ⊢
 split at h
 ·rename_i hr
  split at h
  ·cases h
  ·rename_i hd
   split at h
   ·rename_i hrf
    split at h
    ·cases h
    ·rename_i hf
     split at h
     ·cases h
     ·rename_i hu
      refine ⟨hr, by simpa using hd, hrf, ?_⟩
      rw [if_pos hr, if_neg hd, if_pos hrf, if_neg hf, if_neg hu]
   ·rename_i hrf
    exact absurd h hrf
 ·cases h
theorem qaj {l : List S67} {dn : Bool} {fu fa : Int} {n : Nat} {D : WM} (hD : D = jW l dn fu fa (nameB n)) (hz : D.2.2.2.2 = 0) (hn : n ≤ most) : bF D.1 = true ∧ aK D.1 ≠ [] ∧ True := by
 subst hD
 obtain ⟨h1, h2, h3, h4⟩ := U3 hz
 have h5 : (jW l dn fu fa (nameB n)).1 = l.take (bsOf l (nameB n)) ++ [(⟨nameB n, ⟨#[]⟩, 0⟩ : S67)] ++ l.drop (bsOf l (nameB n)) := by
  rw [jW, h4]
  simp
 rw [h5]
 refine ⟨(G5 h1 h3).1, fun h => ?_, trivial⟩
 have hm : ((⟨nameB n, ⟨#[]⟩, 0⟩ : S67), n) ∈ aK (l.take (bsOf l (nameB n)) ++ [(⟨nameB n, ⟨#[]⟩, 0⟩ : S67)] ++ l.drop (bsOf l (nameB n))) := by
  refine List.mem_filterMap.2 ⟨_, (I4 _ _ _).2 (.inl rfl), ?_⟩
  have : numOf (nameB n) = some n := oI.2 ⟨hn, (qE _).symm⟩
  show (numOf (nameB n)).map _ = _
  rw [this]
  rfl
 rw [h] at hm
 cases hm
set_option maxHeartbeats 8000000 in
theorem qak (b : World) (gl g0 g1 gv : Nat) (l : List S67) (dn : Bool) (fu fa size fr : Int) (n : Nat) (br : Bool) (d : ByteArray) (A0 : Option Addr) (c0 : Nat) (hok : bF l = true) (hG : Gl b) (hn : n < 18446744073709551616) (hs0 : 1 ≤ size) (hs1 : size ≤ 262144) :
  MZ b gl 76 #[.pointer (some ⟨g0, 0, none⟩), .pointer (some ⟨g1, 0, none⟩), .pointer (some ⟨gv, 0, none⟩)] ⟨l, dn, fu, fa, size, fr, (n : Int), br⟩ [box g0 [.slice A0 l.length c0, .bool dn, .int .i64 fu, .int .i64 fa, .int .i64 size, .int .u64 fr, .int .u64 (n : Int), .bool br] 30, box g1 [.string d] 9, box gv [.pointer (some ⟨gl, 0, none⟩)] 131] (jE ⟨l, dn, fu, fa, size, fr, (n : Int), br⟩ d).1 (jE ⟨l, dn, fu, fa, size, fr, (n : Int), br⟩ d).2 := by
 intro A c w ts H0
 have HOK := aA.mk hok
 have HG := aA.mk hG
 have hlen : l.length ≤ 64 := kK hok
 clear hok hG
 obtain ⟨R, hR⟩ : ∃ R, R = jE ⟨l, dn, fu, fa, size, fr, (n : Int), br⟩ d := ⟨_, rfl⟩
 rw [← hR]
 have HR := aA.mk hR
 clear hR
 have H : aA (Sep b w (box gl [.slice A l.length c, .bool dn, .int .i64 fu, .int .i64 fa, .int .i64 size, .int .u64 fr, .int .u64 (n : Int), .bool br] 134 :: row k67 67 (.slice A (l).length c) l :: box g0 [.slice A0 l.length c0, .bool dn, .int .i64 fu, .int .i64 fa, .int .i64 size, .int .u64 fr, .int .u64 (n : Int), .bool br] 30 :: box g1 [.string d] 9 :: box gv [.pointer (some ⟨gl, 0, none⟩)] 131 :: ts)) := H0
 clear H0
 have c_l := H.out.cell (g := gl) aJ
 have z_l := H.out.frozen (g := gl) aJ
 have c_m := H.out.cell (g := g0) mem2
 have c_t := H.out.cell (g := g1) mem3
 have c_v := H.out.cell (g := gv) bK
 go_enter Tryz.func76, Tryz.ntmps76
 cases br with
 | true =>
  go_wp2_with fail
  refine (DV 6 _).mono ?_
  rintro e w_ ⟨rfl, rfl⟩
  have hV : R = (⟨l, dn, fu, fa, size, fr, (n : Int), true⟩, 6) := by rw [HR.out, jE, if_pos rfl]
  show _ ∧ _
  rw [hV]
  exact ⟨rfl, .inr ⟨show (6 : Int) ≠ 0 by decide, rfl⟩, A, c, H⟩
 | false =>
  go_wp2_with fail
  refine (yC 6 _).mono ?_
  rintro e w_ ⟨rfl, rfl⟩
  by_cases hd : 65536 < d.size
  ·
   have hq : decide ((d.size : Int) ≤ 65536) = false := decide_eq_false (by omega)
   go_wp2_with fail
   try simp only [hq]
   refine (DV 4 _).mono ?_
   rintro e w_ ⟨rfl, rfl⟩
   have hV : R = (⟨l, dn, fu, fa, size, fr, (n : Int), false⟩, 4) := by rw [HR.out, jE, if_neg (by simp), if_pos hd]
   show _ ∧ _
   rw [hV]
   exact ⟨rfl, .inr ⟨show (4 : Int) ≠ 0 by decide, rfl⟩, A, c, H⟩
  ·
   have hq : decide ((d.size : Int) ≤ 65536) = true := decide_eq_true (by omega)
   go_wp2_with fail
   try simp only [hq]
   refine (yC 4 _).mono ?_
   rintro e w_ ⟨rfl, rfl⟩
   by_cases hx : 4611686018427387904 ≤ n
   ·
    have hq2 : decide ((n : Int) < 4611686018427387904) = false := decide_eq_false (by omega)
    go_wp2_with fail
    try simp only [hq2]
    refine (DV 2 _).mono ?_
    rintro e w_ ⟨rfl, rfl⟩
    have hV : R = (⟨l, dn, fu, fa, size, fr, (n : Int), false⟩, 2) := by rw [HR.out, jE, if_neg (by simp), if_neg hd, if_pos (by show (4611686018427387904 : Int) ≤ (n : Int); omega)]
    show _ ∧ _
    rw [hV]
    exact ⟨rfl, .inr ⟨show (2 : Int) ≠ 0 by decide, rfl⟩, A, c, H⟩
   ·
    have hq2 : decide ((n : Int) < 4611686018427387904) = true := decide_eq_true (by omega)
    go_wp2_with fail
    try simp only [hq2]
    refine (yC 2 _).mono ?_
    rintro e w_ ⟨rfl, rfl⟩
    obtain ⟨s, hs⟩ : ∃ s, s = dR (n : Int) d := ⟨_, rfl⟩
    have FM := aA.mk (fun w => hs ▸ MR (n : Int) d w (by omega) (by omega) (by omega))
    have hss : s.size = 16 + d.size := by rw [hs, G7]
    have hRV : R = (if (jD ⟨l, dn, fu, fa, size, fr, (n : Int), false⟩ s.size).2 = 0 then pY (jD ⟨l, dn, fu, fa, size, fr, (n : Int), false⟩ s.size).1 s else jD ⟨l, dn, fu, fa, size, fr, (n : Int), false⟩ s.size) := by
     rw [HR.out, jE, if_neg (by simp), if_neg hd, if_neg (by show ¬ (4611686018427387904 : Int) ≤ (n : Int); omega), ← hs]
    have HRV := aA.mk hRV
    clear HR hs hRV hq hq2
    go_wp2_with fail
    refine (FM.out _).mono ?_
    rintro e wd1 ⟨rfl, hb_⟩
    have n_ : aA (Sep b wd1 (box gl [.slice A l.length c, .bool dn, .int .i64 fu, .int .i64 fa, .int .i64 size, .int .u64 fr, .int .u64 (n : Int), .bool false] 134 :: row k67 67 (.slice A (l).length c) l :: box g0 [.slice A0 l.length c0, .bool dn, .int .i64 fu, .int .i64 fa, .int .i64 size, .int .u64 fr, .int .u64 (n : Int), .bool false] 30 :: box g1 [.string d] 9 :: box gv [.pointer (some ⟨gl, 0, none⟩)] 131 :: ts)) := ⟨H.out.step hb_⟩
    clear H c_l z_l c_m c_t c_v
    have H := n_
    clear n_
    have c_l := H.out.cell (g := gl) aJ
    have z_l := H.out.frozen (g := gl) aJ
    have c_m := H.out.cell (g := g0) mem2
    have c_t := H.out.cell (g := g1) mem3
    have c_v := H.out.cell (g := gv) bK
    clear hb_
    go_wp2_with fail
    obtain ⟨ps, hps⟩ : ∃ ps, ps = aK l := ⟨_, rfl⟩
    have HPS := aA.mk hps
    have PA := aA.mk (fun A c w hr hc hG => places_any A c l dn fu fa w hr hc hlen (FD HOK.out) hG)
    rw [← hps] at PA
    clear hps
    refine ((PA.out A c _ (H.out.reads mem1).2.2 (H.out.reads mem1).2.1 (HG.out.below H.out.below)).mono ?_)
    rintro e wd2 ⟨v_, rfl, ho_, hb_⟩
    obtain ⟨Aq, cq, eo_⟩ := Kd.dQ ho_
    subst eo_
    have n_ : aA (Sep b wd2 (row dY 139 (.slice Aq (ps).length cq) ps :: box gl [.slice A l.length c, .bool dn, .int .i64 fu, .int .i64 fa, .int .i64 size, .int .u64 fr, .int .u64 (n : Int), .bool false] 134 :: row k67 67 (.slice A (l).length c) l :: box g0 [.slice A0 l.length c0, .bool dn, .int .i64 fu, .int .i64 fa, .int .i64 size, .int .u64 fr, .int .u64 (n : Int), .bool false] 30 :: box g1 [.string d] 9 :: box gv [.pointer (some ⟨gl, 0, none⟩)] 131 :: ts)) := ⟨Sep.iY H.out hb_ ho_ vI⟩
    clear H c_l z_l c_m c_t c_v
    have H := n_
    clear n_
    have c_l := H.out.cell (g := gl) mem1
    have z_l := H.out.frozen (g := gl) mem1
    have c_m := H.out.cell (g := g0) mem3
    have c_t := H.out.cell (g := g1) bK
    have c_v := H.out.cell (g := gv) dJ
    clear ho_ hb_
    obtain ⟨full, hfu⟩ : ∃ full : Bool, (full = true ↔ isFull ⟨l, dn, fu, fa, size, fr, (n : Int), false⟩ s.size) := by
     by_cases h : isFull ⟨l, dn, fu, fa, size, fr, (n : Int), false⟩ s.size
     ·exact ⟨true, by simp [h]⟩
     ·exact ⟨false, by simp [h]⟩
    have HFU := aA.mk hfu
    clear hfu
    have hlp : wL l = ps.getLast? := by rw [wL, HPS.out]
    have HLP := aA.mk hlp
    have hs5 : s.size ≤ 65552 := by omega
    clear hlp hss
    go_upto_region 6 with fail
    go_cut [59] (fun v59 wx => v59 = .bool full ∧ aA (Sep b wx (row dY 139 (.slice Aq (ps).length cq) ps :: box gl [.slice A l.length c, .bool dn, .int .i64 fu, .int .i64 fa, .int .i64 size, .int .u64 fr, .int .u64 (n : Int), .bool false] 134 :: row k67 67 (.slice A (l).length c) l :: box g0 [.slice A0 l.length c0, .bool dn, .int .i64 fu, .int .i64 fa, .int .i64 size, .int .u64 fr, .int .u64 (n : Int), .bool false] 30 :: box g1 [.string d] 9 :: box gv [.pointer (some ⟨gl, 0, none⟩)] 131 :: ts)))
    case first =>
     cases hgl : ps.getLast? with
     | none =>
      have q1 : ((ps.length : Int) == 0) = true := by rw [List.getLast?_eq_none_iff.1 hgl]; rfl
      have hf : full = true := HFU.out.2 (by rw [isFull, HLP.out, hgl]; trivial)
      subst hf
      clear hgl
      go_quiet (fail)
      go_wp2_with fail
      go_meet
      exact ⟨rfl, ⟨Sep.drewN H.out _⟩⟩
     | some p =>
      have hgp : ps[ps.length - 1]? = some p := by rw [← List.getLast?_eq_getElem?]; exact hgl
      have hp1 : 0 < ps.length := by
       cases ps with
       | nil => cases hgl
       | cons _ _ => simp
      have q1 : ((ps.length : Int) == 0) = false := by
       rw [beq_eq_false_iff_ne]
       omega
      obtain ⟨aq, e1⟩ := EZ (H.out.reads (A := Aq) aJ).2.2 (by omega)
      subst e1
      obtain ⟨h0, h1, h2, h3⟩ := tZ (H.out.reads (A := some aq) aJ).2.2 hgp
      have qeo : aA (isFull ⟨l, dn, fu, fa, size, fr, (n : Int), false⟩ s.size ↔ (size ≤ (p.1.f1.size : Int) ∨ 262144 < p.1.f1.size + s.size)) := ⟨by rw [isFull, HLP.out, hgl]⟩
      have hps1 : p.1.f1.size ≤ 262144 := (pJ HOK.out HPS.out (List.mem_of_getElem? hgp)).1
      clear hgl hgp
      have hpl : ps.length ≤ 64 := by
       have := oZ l
       rw [HPS.out]
       omega
      have hp2 : (0 : Int) ≤ (ps.length : Int) - 1 := by omega
      have hp3 : (ps.length : Int) - 1 < (ps.length : Int) := by omega
      have hpw : IntKind.i64.wrap ((ps.length : Int) - 1) = (ps.length : Int) - 1 := by rw [IntKind.wrap_i64]; omega
      by_cases hb1 : size ≤ (p.1.f1.size : Int)
      ·have hf : full = true := HFU.out.2 (qeo.out.2 (.inl hb1))
       subst hf
       have q2 := decide_eq_true hb1
       go_quiet (fail)
       go_wp2_with fail
       go_meet
       exact ⟨rfl, ⟨Sep.drewN H.out _⟩⟩
      ·have q2 := decide_eq_false hb1
       have qi9 : IntKind.i64.wrap ((p.1.f1.size : Int) + (s.size : Int)) = (p.1.f1.size : Int) + (s.size : Int) := by rw [IntKind.wrap_i64]; omega
       by_cases hb2 : 262144 < p.1.f1.size + s.size
       ·have hf : full = true := HFU.out.2 (qeo.out.2 (.inr hb2))
        subst hf
        have q3 : decide ((262144 : Int) < (p.1.f1.size : Int) + (s.size : Int)) = true := decide_eq_true (by omega)
        go_quiet (fail)
        go_wp2_with fail
        go_meet
        exact ⟨rfl, ⟨Sep.drewN H.out _⟩⟩
       ·have hf : full = false := by
         cases full with
         | false => rfl
         | true =>
          rcases qeo.out.1 (HFU.out.1 rfl) with h | h
          ·exact absurd h hb1
          ·exact absurd h hb2
        subst hf
        have q3 : decide ((262144 : Int) < (p.1.f1.size : Int) + (s.size : Int)) = false := decide_eq_false (by omega)
        go_quiet (fail)
        go_wp2_with fail
        go_meet
        exact ⟨rfl, ⟨Sep.drewN H.out _⟩⟩
    case rest =>
     obtain ⟨rfl, n_⟩ := hcut
     clear H c_l z_l c_m c_t c_v
     have H := n_
     clear n_
     have c_l := H.out.cell (g := gl) mem1
     have c_m := H.out.cell (g := g0) mem3
     have c_t := H.out.cell (g := g1) bK
     have c_v := H.out.cell (g := gv) dJ
     go_upto_if 59 with fail
     go_cut [4] (fun v4 wx => ∃ (L1 : Lg) (A1 Aq1 : Option Addr) (c1 cq1 : Nat), v4 = .slice Aq1 (aK L1.l).length cq1 ∧ aA (aK L1.l ≠ []) ∧ aA (bF L1.l = true) ∧ aA (jD ⟨l, dn, fu, fa, size, fr, (n : Int), false⟩ s.size = (L1, 0)) ∧ L1.nx = (n : Int) ∧ aA (Sep b wx (row dY 139 (.slice Aq1 ((aK L1.l)).length cq1) ((aK L1.l)) :: box gl [.slice A1 L1.l.length c1, .bool L1.dn, .int .i64 L1.fu, .int .i64 L1.fa, .int .i64 L1.size, .int .u64 L1.fr, .int .u64 L1.nx, .bool L1.br] 134 :: row k67 67 (.slice A1 (L1.l).length c1) L1.l :: box g0 [.slice A0 l.length c0, .bool dn, .int .i64 fu, .int .i64 fa, .int .i64 size, .int .u64 fr, .int .u64 (n : Int), .bool false] 30 :: box g1 [.string d] 9 :: box gv [.pointer (some ⟨gl, 0, none⟩)] 131 :: ts)))
     case first =>
      cases full with
      | false =>
       have hSC : jD ⟨l, dn, fu, fa, size, fr, (n : Int), false⟩ s.size = (⟨l, dn, fu, fa, size, fr, (n : Int), false⟩, 0) := by rw [jD, if_neg (fun h => by have := HFU.out.2 h; cases this)]
       have hne : ps ≠ [] := by
        intro h
        have := HFU.out.2 (by rw [isFull, HLP.out, h]; trivial)
        cases this
       go_wp2_with fail
       go_meet
       have hne2 : aK l ≠ [] := by rw [← HPS.out]; exact hne
       have H2 := H.out
       rw [HPS.out] at H2
       refine ⟨⟨l, dn, fu, fa, size, fr, (n : Int), false⟩, A, Aq, c, cq, ?_, ⟨hne2⟩, HOK, ⟨hSC⟩, rfl, ⟨H2⟩⟩
       rw [HPS.out]
      | true =>
       obtain ⟨D, hD⟩ : ∃ D, D = jW l dn fu fa (nameB n) := ⟨_, rfl⟩
       have HD := aA.mk hD
       have hSC : jD ⟨l, dn, fu, fa, size, fr, (n : Int), false⟩ s.size = (chg ⟨l, dn, fu, fa, size, fr, (n : Int), false⟩ D, D.2.2.2.2) := by rw [jD, if_pos (HFU.out.1 rfl), hD]; simp
       have HSC := aA.mk hSC
       clear hD hSC
       go_upto_region 7 with fail
       refine gX (n := 13) (S := fun w' => (∀ j : Nat, w'.cell? ⟨gv, j, none⟩ = [.pointer (some ⟨gl, 0, none⟩)][j]?) ∧ (∀ j : Nat, w'.cell? ⟨gl, j, none⟩ = [.slice A l.length c, .bool dn, .int .i64 fu, .int .i64 fa, .int .i64 size, .int .u64 fr, .int .u64 (n : Int), .bool false][j]?) ∧ (∀ j : Nat, w'.cell? ⟨g0, j, none⟩ = [.slice A0 l.length c0, .bool dn, .int .i64 fu, .int .i64 fa, .int .i64 size, .int .u64 fr, .int .u64 (n : Int), .bool false][j]?) ∧ Sp.Sep b w' (row dY 139 (.slice Aq (ps).length cq) ps :: box gl [.slice A l.length c, .bool dn, .int .i64 fu, .int .i64 fa, .int .i64 size, .int .u64 fr, .int .u64 (n : Int), .bool false] 134 :: row k67 67 (.slice A (l).length c) l :: box g0 [.slice A0 l.length c0, .bool dn, .int .i64 fu, .int .i64 fa, .int .i64 size, .int .u64 fr, .int .u64 (n : Int), .bool false] 30 :: box g1 [.string d] 9 :: box gv [.pointer (some ⟨gl, 0, none⟩)] 131 :: ts)) (ds := [12]) #[false, false, false, false, false, false, false, false, false, false, false, false, false] (by kernel_rfl) rfl rfl ⟨(fun j => ((Sep.drew H.out)).cell (g := gv) dJ j), (fun j => ((Sep.drew H.out)).cell (g := gl) mem1 j), (fun j => ((Sep.drew H.out)).cell (g := g0) mem3 j), (Sep.drew H.out)⟩ (fun hHeld => ?_)
       refine puS (i := 6) (N := some 66) (v := ?_) (a' := ?_) rfl rfl (by kernel_rfl) (fun _ _ _ h => h) (Or.inl ⟨by rfl, ?_⟩) ?_ ?_
       rotate_left
       ·intro w'
        go_simp
        with_reducible rfl
       rotate_left
       ·simp only [Act.put, zA, zZ, zS, aH, aI]
        rfl
       refine tkS (i := 0) (N := some 60) (v := ?_) (a' := ?_) rfl rfl (by kernel_rfl) (fun _ _ _ h => h) (Or.inl ⟨by rfl, ?_⟩) hHeld ?_ ?_
       rotate_left
       ·rintro w' ⟨s0, s1, s2, s3⟩
        go_simp
        with_reducible rfl
       rotate_left
       ·simp only [Act.put, zA, zZ, zS, aH, aI]
        rfl
       refine tkS (i := 1) (N := some 61) (v := ?_) (a' := ?_) rfl rfl (by kernel_rfl) (fun _ _ _ h => h) (Or.inl ⟨by rfl, ?_⟩) hHeld ?_ ?_
       rotate_left
       ·rintro w' ⟨s0, s1, s2, s3⟩
        go_simp
        with_reducible rfl
       rotate_left
       ·simp only [Act.put, zA, zZ, zS, aH, aI]
        rfl
       refine puS (i := 2) (N := some 62) (v := ?_) (a' := ?_) rfl rfl (by kernel_rfl) (fun _ _ _ h => h) (Or.inl ⟨by rfl, ?_⟩) ?_ ?_
       rotate_left
       ·intro w'
        go_simp
        with_reducible rfl
       rotate_left
       ·simp only [Act.put, zA, zZ, zS, aH, aI]
        rfl
       refine puS (i := 3) (N := some 63) (v := ?_) (a' := ?_) rfl rfl (by kernel_rfl) (fun _ _ _ h => h) (Or.inl ⟨by rfl, ?_⟩) ?_ ?_
       rotate_left
       ·intro w'
        go_simp
        with_reducible rfl
       rotate_left
       ·simp only [Act.put, zA, zZ, zS, aH, aI]
        rfl
       refine puS (i := 4) (N := some 64) (v := ?_) (a' := ?_) rfl rfl (by kernel_rfl) (fun _ _ _ h => h) (Or.inl ⟨by rfl, ?_⟩) ?_ ?_
       rotate_left
       ·intro w'
        go_simp
        with_reducible rfl
       rotate_left
       ·simp only [Act.put, zA, zZ, zS, aH, aI]
        rfl
       refine tkS (i := 5) (N := some 65) (v := ?_) (a' := ?_) rfl rfl (by kernel_rfl) (fun _ _ _ h => h) (Or.inl ⟨by rfl, ?_⟩) hHeld ?_ ?_
       rotate_left
       ·rintro w' ⟨s0, s1, s2, s3⟩
        go_simp
        with_reducible rfl
       rotate_left
       ·simp only [Act.put, zA, zZ, zS, aH, aI]
        rfl
       refine tkS (i := 7) (N := some 67) (v := ?_) (a' := ?_) rfl rfl (by kernel_rfl) (fun _ _ _ h => h) (Or.inl ⟨by rfl, ?_⟩) hHeld ?_ ?_
       rotate_left
       ·rintro w' ⟨s0, s1, s2, s3⟩
        go_simp
        with_reducible rfl
       rotate_left
       ·simp only [Act.put, zA, zZ, zS, aH, aI]
        rfl
       refine onS (i := 8) (N := some 68) rfl rfl (by kernel_rfl) (by decide) (fun K hK => ?_)
       refine qP Tryz.func81 (by kernel_rfl) rfl #[.int .u64 (n : Int)] (by rfl) rfl rfl (by simp only [List.map_toArray, List.map_cons, List.map_nil]; rfl) ?_
       with_reducible refine (name_any n _ hn (HG.out.below (Sep.below hHeld.2.2.2))).mono ?_
       rintro e w3 ⟨s_, rfl, hb_, hs_⟩
       have e_s : s_ = nameB n := qN (hs_.trans (qE _).symm)
       subst e_s
       refine ⟨_, rfl, ?_⟩
       refine hK.out _ _ ⟨(fun j => ((Sep.step hHeld.2.2.2 hb_)).cell (g := gv) dJ j), (fun j => ((Sep.step hHeld.2.2.2 hb_)).cell (g := gl) mem1 j), (fun j => ((Sep.step hHeld.2.2.2 hb_)).cell (g := g0) mem3 j), (Sep.step hHeld.2.2.2 hb_)⟩ (fun hHeld => ?_)
       clear hK K
       refine fU (a' := ?_) ?_ ?_
       rotate_left
       ·show Act.put _ (some 68) _ = _
        simp only [Act.put, zA, zZ, zS, aH, aI]
        rfl
       refine onS (i := 9) (N := some 69) rfl rfl (by kernel_rfl) (by decide) (fun K hK => ?_)
       refine qP Tryz.func80 (by kernel_rfl) rfl #[.agg #[.slice A l.length c, .bool dn, .int .i64 fu, .int .i64 fa], .string (nameB n)] (by rfl) rfl rfl (by simp only [List.map_toArray, List.map_cons, List.map_nil]; rfl) ?_
       with_reducible refine (qV.calls A c l dn fu fa (nameB n) D.1 D.2.1 D.2.2.1 D.2.2.2.1 D.2.2.2.2 _ (Sep.reads hHeld.2.2.2 mem2).2.2 (Sep.reads hHeld.2.2.2 mem2).2.1 (by rw [JZ, ← HD.out])).mono ?_
       rintro e w5 ⟨v_, rfl, ho_, uP⟩
       obtain ⟨A3, c3, eo_⟩ := Kd.dQ ho_
       subst eo_
       have HN3 := aA.mk (Sep.iY hHeld.2.2.2 uP ho_ lJ)
       refine ⟨_, rfl, ?_⟩
       refine hK.out _ _ ⟨(fun j => ((Sep.step hHeld.2.2.2 uP)).cell (g := gv) dJ j), (fun j => ((Sep.step hHeld.2.2.2 uP)).cell (g := gl) mem1 j), (fun j => ((Sep.step hHeld.2.2.2 uP)).cell (g := g0) mem3 j), (Sep.step hHeld.2.2.2 uP)⟩ (fun hHeld => ?_)
       clear hK K
       refine fU (a' := ?_) ?_ ?_
       rotate_left
       ·show Act.put _ (some 69) _ = _
        simp only [Act.put, zA, zZ, zS, aH, aI]
        rfl
       refine puS (i := 10) (N := some 70) (v := ?_) (a' := ?_) rfl rfl (by kernel_rfl) (fun _ _ _ h => h) (Or.inl ⟨by rfl, ?_⟩) ?_ ?_
       rotate_left
       ·intro w'
        go_simp
        with_reducible rfl
       rotate_left
       ·simp only [Act.put, zA, zZ, zS, aH, aI]
        rfl
       refine puS (i := 11) (N := some 71) (v := ?_) (a' := ?_) rfl rfl (by kernel_rfl) (fun _ _ _ h => h) (Or.inl ⟨by rfl, ?_⟩) ?_ ?_
       rotate_left
       ·intro w'
        go_simp
        with_reducible rfl
       rotate_left
       ·simp only [Act.put, zA, zZ, zS, aH, aI]
        rfl
       refine laS (i := 12) (N := some 72) rfl rfl (by kernel_rfl) (by decide) (fun K hK => ?_)
       refine tH Tryz.func72 (by kernel_rfl) rfl #[.pointer (some ⟨gl, 0, none⟩), .agg #[.slice A3 D.1.length c3, .bool D.2.1, .int .i64 D.2.2.1, .int .i64 D.2.2.2.1], .int .i64 D.2.2.2.2] (by rfl) rfl rfl (by simp only [List.map_toArray, List.map_cons, List.map_nil]; rfl) ?_
       refine (qF gl A c ⟨l, dn, fu, fa, size, fr, (n : Int), false⟩ A3 c3 D (rs := oJ A3 c3 D.1 :: (row dY 139 (.slice Aq (ps).length cq) ps :: row k67 67 (.slice A (l).length c) l :: box g0 [.slice A0 l.length c0, .bool dn, .int .i64 fu, .int .i64 fa, .int .i64 size, .int .u64 fr, .int .u64 (n : Int), .bool false] 30 :: box g1 [.string d] 9 :: box gv [.pointer (some ⟨gl, 0, none⟩)] 131 :: ts)) ⟨HN3.out.iQ⟩).mono ?_
       rintro e w6 ⟨hE, H4⟩
       rcases hE with ⟨hz, rfl⟩ | ⟨hnz, rfl⟩
       rotate_left
       ·refine .inr ⟨_, rfl, ?_⟩
        have hV : R = (chg ⟨l, dn, fu, fa, size, fr, (n : Int), false⟩ D, D.2.2.2.2) := by rw [HRV.out, HSC.out, if_neg hnz]
        show _ ∧ _
        rw [hV]
        exact ⟨rfl, .inr ⟨hnz, rfl⟩, A3, c3, ⟨(Sep.drop2 (Sep.gK H4.out))⟩⟩
       refine .inl ⟨_, rfl, ?_⟩
       refine hK.out _ _ ?_
       clear hK K
       refine fU (a' := ?_) ?_ ?_
       rotate_left
       ·show Act.put _ (some 72) _ = _
        simp only [Act.put, zA, zZ, zS, aH, aI]
        rfl
       refine jM (by kernel_rfl) ?_
       clear c_l c_m c_t c_v H
       have H : aA (Sep b w6 (box gl [.slice A3 D.1.length c3, .bool D.2.1, .int .i64 D.2.2.1, .int .i64 D.2.2.2.1, .int .i64 size, .int .u64 fr, .int .u64 (n : Int), .bool (if D.2.2.2.2 = 0 then false else true)] 134 :: row k67 67 (.slice A3 (D.1).length c3) D.1 :: box g0 [.slice A0 l.length c0, .bool dn, .int .i64 fu, .int .i64 fa, .int .i64 size, .int .u64 fr, .int .u64 (n : Int), .bool false] 30 :: box g1 [.string d] 9 :: box gv [.pointer (some ⟨gl, 0, none⟩)] 131 :: ts)) := ⟨(Sep.drop2 (Sep.gK H4.out))⟩
       clear H4 HN3
       have c_l := H.out.cell (g := gl) aJ
       have c_m := H.out.cell (g := g0) mem2
       have c_t := H.out.cell (g := g1) mem3
       have c_v := H.out.cell (g := gv) bK
       obtain ⟨hc1, hc2, hc3⟩ := qaj (l := l) (dn := dn) (fu := fu) (fa := fa) (n := n) (D := D) HD.out hz (by unfold most; omega)
       have SV := aA.mk hc1
       have qhZ := aA.mk hc2
       have hlen1 : D.1.length ≤ 64 := kK hc1
       clear hc1 hc2 hc3
       go_wp2_with fail
       refine ((places_any A3 c3 D.1 D.2.1 D.2.2.1 D.2.2.2.1 _ (H.out.reads mem1).2.2 (H.out.reads mem1).2.1 hlen1 (FD SV.out) (HG.out.below H.out.below)).mono ?_)
       rintro e wd3 ⟨v_, rfl, ho_, hb_⟩
       obtain ⟨Aq, cq, eo_⟩ := Kd.dQ ho_
       subst eo_
       have n_ : aA (Sep b wd3 (row dY 139 (.slice Aq ((aK D.1)).length cq) ((aK D.1)) :: box gl [.slice A3 D.1.length c3, .bool D.2.1, .int .i64 D.2.2.1, .int .i64 D.2.2.2.1, .int .i64 size, .int .u64 fr, .int .u64 (n : Int), .bool (if D.2.2.2.2 = 0 then false else true)] 134 :: row k67 67 (.slice A3 (D.1).length c3) D.1 :: box g0 [.slice A0 l.length c0, .bool dn, .int .i64 fu, .int .i64 fa, .int .i64 size, .int .u64 fr, .int .u64 (n : Int), .bool false] 30 :: box g1 [.string d] 9 :: box gv [.pointer (some ⟨gl, 0, none⟩)] 131 :: ts)) := ⟨Sep.iY H.out hb_ ho_ vI⟩
       clear H c_l c_m c_t c_v
       have H := n_
       clear n_
       have c_l := H.out.cell (g := gl) mem1
       have c_m := H.out.cell (g := g0) mem3
       have c_t := H.out.cell (g := g1) bK
       have c_v := H.out.cell (g := gv) dJ
       clear ho_ hb_
       go_wp2_with fail
       go_meet
       refine ⟨chg ⟨l, dn, fu, fa, size, fr, (n : Int), false⟩ D, A3, Aq, c3, cq, rfl, qhZ, SV, ⟨by rw [HSC.out, hz]⟩, rfl, H⟩
     case rest =>
      obtain ⟨L1, A1, Aq1, c1, cq1, rfl, HNE, SV, HSC, hnx, H1⟩ := hcut
      clear c_l c_m c_t c_v H
      have H := H1
      clear H1
      have c_l := H.out.cell (g := gl) mem1
      have c_m := H.out.cell (g := g0) mem3
      have c_t := H.out.cell (g := g1) bK
      have c_v := H.out.cell (g := gv) dJ
      obtain ⟨ps1, hps1⟩ : ∃ ps1, ps1 = aK L1.l := ⟨_, rfl⟩
      have qff := aA.mk hps1
      rw [← hps1] at HNE H ⊢
      clear hps1
      obtain ⟨p, hp⟩ : ∃ p, ps1.getLast? = some p := by
       cases hh : ps1.getLast? with
       | none => exact absurd (List.getLast?_eq_none_iff.1 hh) HNE.out
       | some p => exact ⟨p, rfl⟩
      have hgp : ps1[ps1.length - 1]? = some p := by rw [← List.getLast?_eq_getElem?]; exact hp
      have hp1 : 0 < ps1.length := by
       have := HNE.out
       cases ps1 with
       | nil => exact absurd rfl this
       | cons _ _ => simp
      have HNM : aA (rP L1.l = p.1.f0) := ⟨by rw [rP, wL, ← qff.out, hp]⟩
      obtain ⟨aq, e1⟩ := EZ (H.out.reads (A := Aq1) aJ).2.2 (by omega)
      subst e1
      obtain ⟨h0, h1, h2, h3⟩ := tZ (H.out.reads (A := some aq) aJ).2.2 hgp
      clear hgp hp
      have hpl : ps1.length ≤ 64 := by
       have := oZ L1.l
       have h2 := kK SV.out
       rw [qff.out]
       omega
      have hp2 : (0 : Int) ≤ (ps1.length : Int) - 1 := by omega
      have hp3 : (ps1.length : Int) - 1 < (ps1.length : Int) := by omega
      have hpw : IntKind.i64.wrap ((ps1.length : Int) - 1) = (ps1.length : Int) - 1 := by rw [IntKind.wrap_i64]; omega
      obtain ⟨nm, hnm⟩ : ∃ nm, nm = p.1.f0 := ⟨_, rfl⟩
      rw [← hnm] at h0 HNM
      clear hnm
      obtain ⟨D, hD⟩ : ∃ D, D = jA L1.l L1.dn L1.fu L1.fa nm s := ⟨_, rfl⟩
      have qep : aA (R = pY L1 s) := ⟨by rw [HRV.out, HSC.out, if_pos rfl]⟩
      have HSA : aA (fF L1 nm s = (chg L1 D, D.2.2.2.2)) := ⟨by rw [fF, hD]⟩
      have HD := aA.mk hD
      clear hD
      go_upto_region 10 with fail
      refine gX (n := 12) (S := fun w' => (∀ j : Nat, w'.cell? ⟨gv, j, none⟩ = [.pointer (some ⟨gl, 0, none⟩)][j]?) ∧ (∀ j : Nat, w'.cell? ⟨gl, j, none⟩ = [.slice A1 L1.l.length c1, .bool L1.dn, .int .i64 L1.fu, .int .i64 L1.fa, .int .i64 L1.size, .int .u64 L1.fr, .int .u64 L1.nx, .bool L1.br][j]?) ∧ Sp.Sep b w' (row dY 139 (.slice (some aq) (ps1).length cq1) ps1 :: box gl [.slice A1 L1.l.length c1, .bool L1.dn, .int .i64 L1.fu, .int .i64 L1.fa, .int .i64 L1.size, .int .u64 L1.fr, .int .u64 L1.nx, .bool L1.br] 134 :: row k67 67 (.slice A1 (L1.l).length c1) L1.l :: box g0 [.slice A0 l.length c0, .bool dn, .int .i64 fu, .int .i64 fa, .int .i64 size, .int .u64 fr, .int .u64 (n : Int), .bool false] 30 :: box g1 [.string d] 9 :: box gv [.pointer (some ⟨gl, 0, none⟩)] 131 :: ts)) (ds := [11]) #[false, false, false, false, false, false, false, false, false, false, false, false] (by kernel_rfl) rfl rfl ⟨(fun j => ((Sep.drew H.out)).cell (g := gv) dJ j), (fun j => ((Sep.drew H.out)).cell (g := gl) mem1 j), (Sep.drew H.out)⟩ (fun hHeld => ?_)
      refine puS (i := 6) (N := some 93) (v := ?_) (a' := ?_) rfl rfl (by kernel_rfl) (fun _ _ _ h => h) (Or.inl ⟨by rfl, ?_⟩) ?_ ?_
      rotate_left
      ·intro w'
       go_simp
       with_reducible rfl
      rotate_left
      ·simp only [Act.put, zA, zZ, zS, aH, aI]
       rfl
      refine puS (i := 7) (N := some 94) (v := ?_) (a' := ?_) rfl rfl (by kernel_rfl) (fun _ _ _ h => h) (Or.inl ⟨by rfl, ?_⟩) ?_ ?_
      rotate_left
      ·intro w'
       go_simp
       with_reducible rfl
      rotate_left
      ·simp only [Act.put, zA, zZ, zS, aH, aI]
       rfl
      refine tkS (i := 0) (N := some 87) (v := ?_) (a' := ?_) rfl rfl (by kernel_rfl) (fun _ _ _ h => h) (Or.inl ⟨by rfl, ?_⟩) hHeld ?_ ?_
      rotate_left
      ·rintro w' ⟨s0, s1, s2⟩
       go_simp
       with_reducible rfl
      rotate_left
      ·simp only [Act.put, zA, zZ, zS, aH, aI]
       rfl
      refine tkS (i := 1) (N := some 88) (v := ?_) (a' := ?_) rfl rfl (by kernel_rfl) (fun _ _ _ h => h) (Or.inl ⟨by rfl, ?_⟩) hHeld ?_ ?_
      rotate_left
      ·rintro w' ⟨s0, s1, s2⟩
       go_simp
       with_reducible rfl
      rotate_left
      ·simp only [Act.put, zA, zZ, zS, aH, aI]
       rfl
      refine puS (i := 2) (N := some 89) (v := ?_) (a' := ?_) rfl rfl (by kernel_rfl) (fun _ _ _ h => h) (Or.inl ⟨by rfl, ?_⟩) ?_ ?_
      rotate_left
      ·intro w'
       go_simp
       with_reducible rfl
      rotate_left
      ·simp only [Act.put, zA, zZ, zS, aH, aI]
       rfl
      refine puS (i := 3) (N := some 90) (v := ?_) (a' := ?_) rfl rfl (by kernel_rfl) (fun _ _ _ h => h) (Or.inl ⟨by rfl, ?_⟩) ?_ ?_
      rotate_left
      ·intro w'
       go_simp
       with_reducible rfl
      rotate_left
      ·simp only [Act.put, zA, zZ, zS, aH, aI]
       rfl
      refine puS (i := 4) (N := some 91) (v := ?_) (a' := ?_) rfl rfl (by kernel_rfl) (fun _ _ _ h => h) (Or.inl ⟨by rfl, ?_⟩) ?_ ?_
      rotate_left
      ·intro w'
       go_simp
       with_reducible rfl
      rotate_left
      ·simp only [Act.put, zA, zZ, zS, aH, aI]
       rfl
      refine tkS (i := 5) (N := some 92) (v := ?_) (a' := ?_) rfl rfl (by kernel_rfl) (fun _ _ _ h => h) (Or.inl ⟨by rfl, ?_⟩) hHeld ?_ ?_
      rotate_left
      ·rintro w' ⟨s0, s1, s2⟩
       go_simp
       with_reducible rfl
      rotate_left
      ·simp only [Act.put, zA, zZ, zS, aH, aI]
       rfl
      refine onS (i := 8) (N := some 95) rfl rfl (by kernel_rfl) (by decide) (fun K hK => ?_)
      refine qP Tryz.func82 (by kernel_rfl) rfl #[.agg #[.slice A1 L1.l.length c1, .bool L1.dn, .int .i64 L1.fu, .int .i64 L1.fa], .string nm, .string s] (by rfl) rfl rfl (by simp only [List.map_toArray, List.map_cons, List.map_nil]; rfl) ?_
      with_reducible refine (qW.calls A1 c1 L1.l L1.dn L1.fu L1.fa nm s D.1 D.2.1 D.2.2.1 D.2.2.2.1 D.2.2.2.2 _ (Sep.reads hHeld.2.2 mem2).2.2 (Sep.reads hHeld.2.2 mem2).2.1 (by rw [JY, ← HD.out])).mono ?_
      rintro e w5 ⟨v_, rfl, ho_, uP⟩
      obtain ⟨A3, c3, eo_⟩ := Kd.dQ ho_
      subst eo_
      have HN3 := aA.mk (Sep.iY hHeld.2.2 uP ho_ lJ)
      refine ⟨_, rfl, ?_⟩
      refine hK.out _ _ ⟨(fun j => ((Sep.step hHeld.2.2 uP)).cell (g := gv) dJ j), (fun j => ((Sep.step hHeld.2.2 uP)).cell (g := gl) mem1 j), (Sep.step hHeld.2.2 uP)⟩ (fun hHeld => ?_)
      clear hK K
      refine fU (a' := ?_) ?_ ?_
      rotate_left
      ·show Act.put _ (some 95) _ = _
       simp only [Act.put, zA, zZ, zS, aH, aI]
       rfl
      refine puS (i := 9) (N := some 96) (v := ?_) (a' := ?_) rfl rfl (by kernel_rfl) (fun _ _ _ h => h) (Or.inl ⟨by rfl, ?_⟩) ?_ ?_
      rotate_left
      ·intro w'
       go_simp
       with_reducible rfl
      rotate_left
      ·simp only [Act.put, zA, zZ, zS, aH, aI]
       rfl
      refine puS (i := 10) (N := some 97) (v := ?_) (a' := ?_) rfl rfl (by kernel_rfl) (fun _ _ _ h => h) (Or.inl ⟨by rfl, ?_⟩) ?_ ?_
      rotate_left
      ·intro w'
       go_simp
       with_reducible rfl
      rotate_left
      ·simp only [Act.put, zA, zZ, zS, aH, aI]
       rfl
      refine laS (i := 11) (N := some 98) rfl rfl (by kernel_rfl) (by decide) (fun K hK => ?_)
      refine tH Tryz.func72 (by kernel_rfl) rfl #[.pointer (some ⟨gl, 0, none⟩), .agg #[.slice A3 D.1.length c3, .bool D.2.1, .int .i64 D.2.2.1, .int .i64 D.2.2.2.1], .int .i64 D.2.2.2.2] (by rfl) rfl rfl (by simp only [List.map_toArray, List.map_cons, List.map_nil]; rfl) ?_
      refine (qF gl A1 c1 L1 A3 c3 D (rs := oJ A3 c3 D.1 :: (row dY 139 (.slice (some aq) (ps1).length cq1) ps1 :: row k67 67 (.slice A1 (L1.l).length c1) L1.l :: box g0 [.slice A0 l.length c0, .bool dn, .int .i64 fu, .int .i64 fa, .int .i64 size, .int .u64 fr, .int .u64 (n : Int), .bool false] 30 :: box g1 [.string d] 9 :: box gv [.pointer (some ⟨gl, 0, none⟩)] 131 :: ts)) ⟨HN3.out.iQ⟩).mono ?_
      rintro e w6 ⟨hE, H4⟩
      rcases hE with ⟨hz, rfl⟩ | ⟨hnz, rfl⟩
      rotate_left
      ·refine .inr ⟨_, rfl, ?_⟩
       have hV : R = (chg L1 D, D.2.2.2.2) := by rw [qep.out, pY, HNM.out, HSA.out, if_neg hnz]
       show _ ∧ _
       rw [hV]
       exact ⟨rfl, .inr ⟨hnz, rfl⟩, A3, c3, ⟨(Sep.drop2 (Sep.gK H4.out))⟩⟩
      refine .inl ⟨_, rfl, ?_⟩
      refine hK.out _ _ ?_
      clear hK K
      refine fU (a' := ?_) ?_ ?_
      rotate_left
      ·show Act.put _ (some 98) _ = _
       simp only [Act.put, zA, zZ, zS, aH, aI]
       rfl
      refine jM (by kernel_rfl) ?_
      clear c_l c_m c_t c_v H
      have H : aA (Sep b w6 (box gl [.slice A3 D.1.length c3, .bool D.2.1, .int .i64 D.2.2.1, .int .i64 D.2.2.2.1, .int .i64 L1.size, .int .u64 L1.fr, .int .u64 L1.nx, .bool (if D.2.2.2.2 = 0 then L1.br else true)] 134 :: row k67 67 (.slice A3 (D.1).length c3) D.1 :: box g0 [.slice A0 l.length c0, .bool dn, .int .i64 fu, .int .i64 fa, .int .i64 size, .int .u64 fr, .int .u64 (n : Int), .bool false] 30 :: box g1 [.string d] 9 :: box gv [.pointer (some ⟨gl, 0, none⟩)] 131 :: ts)) := ⟨(Sep.drop2 (Sep.gK H4.out))⟩
      clear H4 HN3
      have c_l := H.out.cell (g := gl) aJ
      have c_m := H.out.cell (g := g0) mem2
      have c_t := H.out.cell (g := g1) mem3
      have c_v := H.out.cell (g := gv) bK
      obtain ⟨E, hE⟩ : ∃ E, E = tC D.1 D.2.1 D.2.2.1 D.2.2.2.1 nm := ⟨_, rfl⟩
      have HSS : aA (stepS (chg L1 D) nm = (chg (chg L1 D) E, E.2.2.2.2)) := ⟨by rw [stepS, hE]; rfl⟩
      have HE := aA.mk hE
      have HZ := aA.mk hz
      clear hE hz
      go_upto_region 11 with fail
      refine gX (n := 11) (S := fun w' => (∀ j : Nat, w'.cell? ⟨gv, j, none⟩ = [.pointer (some ⟨gl, 0, none⟩)][j]?) ∧ (∀ j : Nat, w'.cell? ⟨gl, j, none⟩ = [.slice A3 D.1.length c3, .bool D.2.1, .int .i64 D.2.2.1, .int .i64 D.2.2.2.1, .int .i64 L1.size, .int .u64 L1.fr, .int .u64 L1.nx, .bool (if D.2.2.2.2 = 0 then L1.br else true)][j]?) ∧ Sp.Sep b w' (box gl [.slice A3 D.1.length c3, .bool D.2.1, .int .i64 D.2.2.1, .int .i64 D.2.2.2.1, .int .i64 L1.size, .int .u64 L1.fr, .int .u64 L1.nx, .bool (if D.2.2.2.2 = 0 then L1.br else true)] 134 :: row k67 67 (.slice A3 (D.1).length c3) D.1 :: box g0 [.slice A0 l.length c0, .bool dn, .int .i64 fu, .int .i64 fa, .int .i64 size, .int .u64 fr, .int .u64 (n : Int), .bool false] 30 :: box g1 [.string d] 9 :: box gv [.pointer (some ⟨gl, 0, none⟩)] 131 :: ts)) (ds := [10]) #[false, false, false, false, false, false, false, false, false, false, false] (by kernel_rfl) rfl rfl ⟨(fun j => ((Sep.drew H.out)).cell (g := gv) bK j), (fun j => ((Sep.drew H.out)).cell (g := gl) aJ j), (Sep.drew H.out)⟩ (fun hHeld => ?_)
      refine puS (i := 6) (N := some 105) (v := ?_) (a' := ?_) rfl rfl (by kernel_rfl) (fun _ _ _ h => h) (Or.inl ⟨by rfl, ?_⟩) ?_ ?_
      rotate_left
      ·intro w'
       go_simp
       with_reducible rfl
      rotate_left
      ·simp only [Act.put, zA, zZ, zS, aH, aI]
       rfl
      refine tkS (i := 0) (N := some 99) (v := ?_) (a' := ?_) rfl rfl (by kernel_rfl) (fun _ _ _ h => h) (Or.inl ⟨by rfl, ?_⟩) hHeld ?_ ?_
      rotate_left
      ·rintro w' ⟨s0, s1, s2⟩
       go_simp
       with_reducible rfl
      rotate_left
      ·simp only [Act.put, zA, zZ, zS, aH, aI]
       rfl
      refine tkS (i := 1) (N := some 100) (v := ?_) (a' := ?_) rfl rfl (by kernel_rfl) (fun _ _ _ h => h) (Or.inl ⟨by rfl, ?_⟩) hHeld ?_ ?_
      rotate_left
      ·rintro w' ⟨s0, s1, s2⟩
       go_simp
       with_reducible rfl
      rotate_left
      ·simp only [Act.put, zA, zZ, zS, aH, aI]
       rfl
      refine puS (i := 2) (N := some 101) (v := ?_) (a' := ?_) rfl rfl (by kernel_rfl) (fun _ _ _ h => h) (Or.inl ⟨by rfl, ?_⟩) ?_ ?_
      rotate_left
      ·intro w'
       go_simp
       with_reducible rfl
      rotate_left
      ·simp only [Act.put, zA, zZ, zS, aH, aI]
       rfl
      refine puS (i := 3) (N := some 102) (v := ?_) (a' := ?_) rfl rfl (by kernel_rfl) (fun _ _ _ h => h) (Or.inl ⟨by rfl, ?_⟩) ?_ ?_
      rotate_left
      ·intro w'
       go_simp
       with_reducible rfl
      rotate_left
      ·simp only [Act.put, zA, zZ, zS, aH, aI]
       rfl
      refine puS (i := 4) (N := some 103) (v := ?_) (a' := ?_) rfl rfl (by kernel_rfl) (fun _ _ _ h => h) (Or.inl ⟨by rfl, ?_⟩) ?_ ?_
      rotate_left
      ·intro w'
       go_simp
       with_reducible rfl
      rotate_left
      ·simp only [Act.put, zA, zZ, zS, aH, aI]
       rfl
      refine tkS (i := 5) (N := some 104) (v := ?_) (a' := ?_) rfl rfl (by kernel_rfl) (fun _ _ _ h => h) (Or.inl ⟨by rfl, ?_⟩) hHeld ?_ ?_
      rotate_left
      ·rintro w' ⟨s0, s1, s2⟩
       go_simp
       with_reducible rfl
      rotate_left
      ·simp only [Act.put, zA, zZ, zS, aH, aI]
       rfl
      refine onS (i := 7) (N := some 106) rfl rfl (by kernel_rfl) (by decide) (fun K hK => ?_)
      refine qP Tryz.func83 (by kernel_rfl) rfl #[.agg #[.slice A3 D.1.length c3, .bool D.2.1, .int .i64 D.2.2.1, .int .i64 D.2.2.2.1], .string nm] (by rfl) rfl rfl (by simp only [List.map_toArray, List.map_cons, List.map_nil]; rfl) ?_
      with_reducible refine (vF.calls A3 c3 D.1 D.2.1 D.2.2.1 D.2.2.2.1 nm E.1 E.2.1 E.2.2.1 E.2.2.2.1 E.2.2.2.2 _ (Sep.reads hHeld.2.2 mem1).2.2 (Sep.reads hHeld.2.2 mem1).2.1 (by rw [OQ, ← HE.out])).mono ?_
      rintro e w7 ⟨v_, rfl, ho_, uP⟩
      obtain ⟨A4, c4, eo_⟩ := Kd.dQ ho_
      subst eo_
      have HN3 := aA.mk (Sep.iY hHeld.2.2 uP ho_ lJ)
      refine ⟨_, rfl, ?_⟩
      refine hK.out _ _ ⟨(fun j => ((Sep.step hHeld.2.2 uP)).cell (g := gv) bK j), (fun j => ((Sep.step hHeld.2.2 uP)).cell (g := gl) aJ j), (Sep.step hHeld.2.2 uP)⟩ (fun hHeld => ?_)
      clear hK K
      refine fU (a' := ?_) ?_ ?_
      rotate_left
      ·show Act.put _ (some 106) _ = _
       simp only [Act.put, zA, zZ, zS, aH, aI]
       rfl
      refine puS (i := 8) (N := some 107) (v := ?_) (a' := ?_) rfl rfl (by kernel_rfl) (fun _ _ _ h => h) (Or.inl ⟨by rfl, ?_⟩) ?_ ?_
      rotate_left
      ·intro w'
       go_simp
       with_reducible rfl
      rotate_left
      ·simp only [Act.put, zA, zZ, zS, aH, aI]
       rfl
      refine puS (i := 9) (N := some 108) (v := ?_) (a' := ?_) rfl rfl (by kernel_rfl) (fun _ _ _ h => h) (Or.inl ⟨by rfl, ?_⟩) ?_ ?_
      rotate_left
      ·intro w'
       go_simp
       with_reducible rfl
      rotate_left
      ·simp only [Act.put, zA, zZ, zS, aH, aI]
       rfl
      refine laS (i := 10) (N := some 109) rfl rfl (by kernel_rfl) (by decide) (fun K hK => ?_)
      refine tH Tryz.func72 (by kernel_rfl) rfl #[.pointer (some ⟨gl, 0, none⟩), .agg #[.slice A4 E.1.length c4, .bool E.2.1, .int .i64 E.2.2.1, .int .i64 E.2.2.2.1], .int .i64 E.2.2.2.2] (by rfl) rfl rfl (by simp only [List.map_toArray, List.map_cons, List.map_nil]; rfl) ?_
      refine (qF gl A3 c3 (chg L1 D) A4 c4 E (rs := oJ A4 c4 E.1 :: (row k67 67 (.slice A3 (D.1).length c3) D.1 :: box g0 [.slice A0 l.length c0, .bool dn, .int .i64 fu, .int .i64 fa, .int .i64 size, .int .u64 fr, .int .u64 (n : Int), .bool false] 30 :: box g1 [.string d] 9 :: box gv [.pointer (some ⟨gl, 0, none⟩)] 131 :: ts)) ⟨HN3.out.iP⟩).mono ?_
      rintro e w8 ⟨hE, H4⟩
      rcases hE with ⟨hz2, rfl⟩ | ⟨hnz, rfl⟩
      rotate_left
      ·refine .inr ⟨_, rfl, ?_⟩
       have hV : R = (chg (chg L1 D) E, E.2.2.2.2) := by rw [qep.out, pY, HNM.out, HSA.out, if_pos HZ.out, HSS.out, if_neg hnz]
       show _ ∧ _
       rw [hV]
       exact ⟨rfl, .inr ⟨hnz, rfl⟩, A4, c4, ⟨(Sep.drop2 H4.out)⟩⟩
      refine .inl ⟨_, rfl, ?_⟩
      refine hK.out _ _ ?_
      clear hK K
      refine fU (a' := ?_) ?_ ?_
      rotate_left
      ·show Act.put _ (some 109) _ = _
       simp only [Act.put, zA, zZ, zS, aH, aI]
       rfl
      refine jM (by kernel_rfl) ?_
      clear c_l c_m c_t c_v H
      have H : aA (Sep b w8 (box gl [.slice A4 E.1.length c4, .bool E.2.1, .int .i64 E.2.2.1, .int .i64 E.2.2.2.1, .int .i64 L1.size, .int .u64 L1.fr, .int .u64 L1.nx, .bool (if E.2.2.2.2 = 0 then (if D.2.2.2.2 = 0 then L1.br else true) else true)] 134 :: row k67 67 (.slice A4 (E.1).length c4) E.1 :: box g0 [.slice A0 l.length c0, .bool dn, .int .i64 fu, .int .i64 fa, .int .i64 size, .int .u64 fr, .int .u64 (n : Int), .bool false] 30 :: box g1 [.string d] 9 :: box gv [.pointer (some ⟨gl, 0, none⟩)] 131 :: ts)) := ⟨(Sep.drop2 H4.out)⟩
      clear H4 HN3
      have c_l := H.out.cell (g := gl) aJ
      have z_l := H.out.frozen (g := gl) aJ
      have c_m := H.out.cell (g := g0) mem2
      have c_t := H.out.cell (g := g1) mem3
      have c_v := H.out.cell (g := gv) bK
      have HZ2 := aA.mk hz2
      clear hz2
      have hx1 : 0 ≤ L1.nx := by omega
      have hx2 : L1.nx < 4611686018427387904 := by omega
      have HNX := aA.mk hnx
      clear hnx
      go_wp2_with (first
 |((with_reducible refine aN (t := 28) (p := 118) rfl ?_);
   refine aZ (rs1 := (box gl [.slice A4 E.1.length c4, .bool E.2.1, .int .i64 E.2.2.1, .int .i64 E.2.2.2.1, .int .i64 L1.size, .int .u64 L1.fr, .int .u64 (L1.nx + 1), .bool (if E.2.2.2.2 = 0 then (if D.2.2.2.2 = 0 then L1.br else true) else true)] 134 :: row k67 67 (.slice A4 (E.1).length c4) E.1 :: box g0 [.slice A0 l.length c0, .bool dn, .int .i64 fu, .int .i64 fa, .int .i64 size, .int .u64 fr, .int .u64 (n : Int), .bool false] 30 :: box g1 [.string d] 9 :: box gv [.pointer (some ⟨gl, 0, none⟩)] 131 :: ts)) rfl (t := 28) (p := 118) rfl rfl ?hr (H1 := (Sep.set0 H.out 6 (.int .u64 (L1.nx + 1)) rfl)) ?_;
   (case hr => first | (go_simp; done) | (go_simp; rfl));
   intro wd4 n_;
   clear H c_l z_l c_m c_t c_v;
   have H := n_;
   clear n_;
   have c_l := H.out.cell (g := gl) aJ;
   have z_l := H.out.frozen (g := gl) aJ;
   have c_m := H.out.cell (g := g0) mem2;
   have c_t := H.out.cell (g := g1) mem3;
   have c_v := H.out.cell (g := gv) bK)
 |fail)
      go_end0
      have hV : R = ({ chg (chg L1 D) E with nx := L1.nx + 1 }, 0) := by rw [qep.out, pY, HNM.out, HSA.out, if_pos HZ.out, HSS.out, if_pos HZ2.out]
      rw [hV]
      exact ⟨.inl ⟨rfl, rfl⟩, A4, c4, H⟩
end Go.Proofs.U
