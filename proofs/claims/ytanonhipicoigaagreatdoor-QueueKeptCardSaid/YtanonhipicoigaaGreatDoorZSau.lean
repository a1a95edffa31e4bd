import Derived.Test.YtanonhipicoigaaGreatDoorZSat
import Derived.Test.YtanonhipicoigaaGreatDoorZSai
import Derived.Test.YtanonhipicoigaaGreatDoorZSag
set_option linter.unusedVariables false
set_option linter.unusedSimpArgs false
set_option maxRecDepth 100000
namespace Go.Proofs.U
open Go.ChangeShapes Go.WideShapes Go.Deep Go.RowKit Go.Proofs.YW.PrintWords Go.Proofs.YW.PrintLast Go.Proofs.YW.PrintMore
section
variable {H : Type} {enc : TypeId × Value → H} {w : World} {base : Nat} {held : Bool}
theorem QL {fuel : Nat} {A : Option Addr} {len cap : Nat} {x : DataW H × List MemPlace} (h : DataW.trod enc Tryz.prog w base (fun _ => true) held fuel 89 [.slice A len cap] = some x) :
  ∃ l : List S84, len = l.length ∧ len ≤ cap ∧ Kd.C k84 w A len l ∧ ∀ i : Nat, i < len → 0 ≤ (uT l (i : Int)).f2 ∧ (uT l (i : Int)).f2 < 18446744073709551616 := by
 rcases open_slice Tryz.underlying89 h with h0 | ⟨a, len', cap', m, n, D, Pl, hcs, hb, hl, hm, hmm, hx, hi⟩
 ·obtain ⟨h0, _⟩ := h0
  simp only [List.cons.injEq, and_true, Value.slice.injEq] at h0
  obtain ⟨rfl, rfl, rfl⟩ := h0
  exact ⟨[], rfl, Nat.le_refl _, Kd.C_nil _ _, fun i hi => by cases hi⟩
 ·simp only [List.cons.injEq, and_true, Value.slice.injEq] at hcs
  obtain ⟨rfl, rfl, rfl⟩ := hcs
  have key : ∀ i, i < len → ∃ p : {p : S84 // 0 ≤ p.f2 ∧ p.f2 < 18446744073709551616}, ∀ j u, [Value.int .u8 p.1.f0, Value.string p.1.f1, Value.int .u64 p.1.f2][j]? = some u → w.cell? (a.add (i * 3 + j)) = some u := by
   intro i hi2
   obtain ⟨cs', hc, ht'⟩ := hi i (by rw [hmm]; simp; omega)
   rw [show Tryz.prog.cellsOf 84 = 3 by kernel_rfl] at hc
   obtain ⟨ys, n', hn', hy, hlen, hyl, hf⟩ := DataW.trod_struct Tryz.underlying84 ht'
   obtain ⟨_, hcl, hat⟩ := World.cells?_some hc
   match cs', hcl with
   | [c0, c1, c2], _ =>
    have e9 : Tryz.prog.cellsOf 9 = 1 := by kernel_rfl
    have e28 : Tryz.prog.cellsOf 28 = 1 := by kernel_rfl
    have e82 : Tryz.prog.cellsOf 82 = 1 := by kernel_rfl
    have h0 : DataW.trod enc Tryz.prog w base (fun _ => true) held n' 82 (List.take (Tryz.prog.cellsOf 82) (List.drop 0 [c0, c1, c2])) = ys[0]? := hf 0 _ rfl
    have h1 : DataW.trod enc Tryz.prog w base (fun _ => true) held n' 9 (List.take (Tryz.prog.cellsOf 9) (List.drop 1 [c0, c1, c2])) = ys[1]? := hf 1 _ rfl
    have h2 : DataW.trod enc Tryz.prog w base (fun _ => true) held n' 28 (List.take (Tryz.prog.cellsOf 28) (List.drop 2 [c0, c1, c2])) = ys[2]? := hf 2 _ rfl
    rw [e82] at h0
    rw [e9] at h1
    rw [e28] at h2
    have hy3 : ys.length = 3 := hyl
    rw [List.getElem?_eq_getElem (by omega)] at h0 h1 h2
    obtain ⟨s0, q0, _⟩ := DataW.trod_int Tryz.underlying82 h0
    obtain ⟨s1, q1, _⟩ := DataW.trod_string Tryz.underlying9 h1
    obtain ⟨s2, q2, _, q3⟩ := DataW.trod_int Tryz.underlying28 h2
    obtain rfl : c0 = .int .u8 s0 := by simpa using q0
    obtain rfl : c1 = .string s1 := by simpa using q1
    obtain rfl : c2 = .int .u64 s2 := by simpa using q2
    refine ⟨⟨⟨s0, s1, s2⟩, FY q3⟩, fun j u hu => ?_⟩
    have hj : j < 3 := (List.getElem?_eq_some_iff.1 hu).1
    have := hat j hj
    rw [← Go.Deep.add_add, this]
    exact hu
  obtain ⟨l, hll, hq⟩ := list_of len key
  refine ⟨l.map Subtype.val, by rw [List.length_map]; exact hll.symm, hl, ⟨by rw [List.length_map]; exact hll, by unfold maxLen at hm; omega, fun _ => ⟨a, rfl, fun j p hj => ?_⟩⟩, fun i hi => ?_⟩
  ·rw [List.getElem?_map] at hj
   obtain ⟨q, hq1, rfl⟩ := Option.map_eq_some_iff.1 hj
   exact ⟨_, rfl, qeL w q.1, hq j q hq1⟩
  ·have hil : i < l.length := by omega
   have e : uT (l.map Subtype.val) (i : Int) = (l[i]).1 := by
    simp [uT, List.getD, List.getElem?_map, List.getElem?_eq_getElem hil]
   rw [e]
   exact (l[i]).2
end
end Go.Proofs.U
namespace Go.Proofs.U
open Go.RowKit Go.Proofs.YW.PrintWords Go.Proofs.YW.PrintLast Go.Proofs.YW.PrintMore
attribute [local go_sem] iE iF jG jH gQ gU iJ iK
def kG.f  : Option ((List (S67)) × Bool × Int × Int) := some (([] : List (S67)), false, (-1), (-1))
set_option maxHeartbeats 8000000 in
theorem kG.calls  (r1 : List (S67)) (r2 : Bool) (r3 : Int) (r4 : Int) (w : World) (h : kG.f  = some (r1, r2, r3, r4)) :
  Calls Tryz.prog 36 #[] w fun e w' => ∃ v0_ : Value, e = .returned (.agg #[v0_, .bool r2, .int .i64 r3, .int .i64 r4]) ∧ Kd.R k67 67 w' w.heap.size (fun _ => True) v0_ r1 ∧ Below w.heap.size w w' := by
 have qh1 := Tryz.underlying27
 have HB := aA.mk (Below.refl w.heap.size w)
 have H : (some (([] : List (S67)), false, (-1), (-1))) = some (r1, r2, r3, r4) := h
 clear h
 simp only [Option.some.injEq, Prod.mk.injEq] at H
 obtain ⟨rfl, rfl, rfl, rfl⟩ := H
 go_enter Tryz.func36, Tryz.ntmps36
 go_wp2_with (first | ((with_reducible refine aP (N := 0) rfl ?_); refine dI ?hg (N := 0) ?hd (cs := #[.slice none 0 0, .bool false, .int .i64 0, .int .i64 0]) (t := 27) ?hr ?_; (case hd => rfl); (case hg => rfl); (case hr => first | (go_simp; done) | (go_simp; rfl)); intro LV hg w1 hbox hb; have n0_ := aA.mk (aX (by repeat (first | (with_reducible first | exact HB.out | apply aQ | apply aT | apply aV) | exact HB.out)) hb); have n1_ := aA.mk (hbox); have n2_ := aA.mk ((by rw [hg]; exact (dW (by repeat (first | (with_reducible first | exact HB.out | apply aQ | apply aT | apply aV) | exact HB.out))) : w.heap.size ≤ LV)); have n3_ := aA.mk ((by rw [hg]; exact (dW (by repeat (first | (with_reducible first | exact HB.out | apply aQ | apply aT | apply aV) | exact HB.out))) : w.heap.size ≤ LV)); clear HB; have HB := n0_; have EC := n1_; have qiZ := n2_; have qfH := n3_; clear n0_ n1_ n2_ n3_; clear hb hbox hg; have qiv : w1.cell? ⟨LV, 0, none⟩ = some (.slice none 0 0) := (aG EC.out 0).trans rfl; have qiw : w1.cell? ⟨LV, 1, none⟩ = some (.bool false) := (aG EC.out 1).trans rfl; have qix : w1.cell? ⟨LV, 2, none⟩ = some (.int .i64 0) := (aG EC.out 2).trans rfl; have qiy : w1.cell? ⟨LV, 3, none⟩ = some (.int .i64 0) := (aG EC.out 3).trans rfl; have qiz := aC EC.out 0; have qiA := aC EC.out 1; have qiB := aC EC.out 2; have qiC := aC EC.out 3))
 refine bodyPost_ret (results_cell_row rfl _ _ LV 27 #[.slice none 0 0, .bool false, .int .i64 (-1), .int .i64 (-1)] (0, 0) _ rfl (by (with_reducible repeat (first | refine bT ?_ _ | refine bI ?_ | refine aY ?_ _)); refine fV (cs := #[.slice none 0 0, .bool false, .int .i64 (-1), .int .i64 0]) ?_ 3 _ rfl; (with_reducible repeat (first | refine bT ?_ _ | refine bI ?_ | refine aY ?_ _)); refine fV (cs := #[.slice none 0 0, .bool false, .int .i64 0, .int .i64 0]) ?_ 2 _ rfl; (with_reducible repeat (first | refine bT ?_ _ | refine bI ?_ | refine aY ?_ _)); refine fV (cs := #[.slice none 0 0, .bool false, .int .i64 0, .int .i64 0]) ?_ 1 _ rfl; (with_reducible repeat (first | refine bT ?_ _ | refine bI ?_ | refine aY ?_ _)); refine fV (cs := #[.slice none 0 0, .bool false, .int .i64 0, .int .i64 0]) ?_ 0 _ rfl; (with_reducible repeat (first | refine bT ?_ _ | refine bI ?_ | refine aY ?_ _)); exact EC.out) Tryz.underlying27 rfl (by kernel_rfl)) rfl ?_
 exact ⟨_, by first | rfl | (simp [gV, gW] <;> rfl) | (simp [*, gV, gW] <;> rfl), by first | exact Kd.zF _ _ _ _ _ | exact Kd.qeU _ _ _ _ _ | exact Kd.qeV _ _ _ _ _ | exact Kd.qeO _ _ _ _ _ | exact Kd.qeS _ _ _ _ _, by repeat (first | (with_reducible first | exact HB.out | apply aQ | apply aT | apply aV | refine bH ?_ qfH.out) | exact HB.out)⟩
end Go.Proofs.U
namespace Go.Proofs.U
open Go.RowKit Go.Proofs.YW.PrintWords Go.Proofs.YW.PrintLast Go.Proofs.YW.PrintMore Go.Proofs.Sp Go.Proofs.fG
set_option maxHeartbeats 1600000 in
theorem WB (w : World) (hG : Gl w) : Calls Tryz.prog 35 #[] w fun e w' => e = .returned (.bool true) ∧ Below w.heap.size w w' := by
 have HG := aA.mk hG
 clear hG
 obtain ⟨Q0, Q1, Q2, Q3, Q4, Q5, h0, r0, h1, s1, r1, h2, s2, r2, h3, s3, r3, h4, h5, h6⟩ := qeI
 have HO1 := aA.mk (fun A c w hr hc hG => vU A c [] false (-1) (-1) 100 5 w hr hc hG)
 have HP1 := aA.mk (fun A c B d w hr hc hre hce hG => put_any A c B d Q0 ⟨#[97]⟩ w hr hc hre hce hG r0.1 r0.2.1 r0.2.2)
 have HP2 := aA.mk (fun A c B d w hr hc hre hce hG => put_any A c B d Q1 ⟨#[98]⟩ w hr hc hre hce hG r1.1 r1.2.1 r1.2.2)
 have HLE := aA.mk (fun A c B d w hr hc hre hce hG => NJ A c B d Q2 w hr hc hre hce hG r2.1 r2.2.1 r2.2.2)
 have HAK := aA.mk (fun A c B d w hr hc hre hce hG => YZ A c B d Q3 1 w hr hc hre hce hG r3.1 r3.2.1 r3.2.2 (by decide) (by decide))
 have HO2 := aA.mk (fun A c w hr hc hG => vU A c Q4.L.l Q4.L.dn Q4.L.fu Q4.L.fa 100 5 w hr hc hG)
 rw [h0] at HO1
 rw [h1, s1] at HP1
 rw [h2, s2] at HP2
 rw [h3, s3] at HLE
 rw [h4] at HAK
 rw [h5] at HO2
 dsimp only at HO1 HP1 HP2 HLE HAK HO2
 have HE5 := aA.mk h6
 clear h0 r0 h1 s1 r1 h2 s2 r2 h3 s3 r3 h4 h5 h6
 have H := aA.mk (Sep.start w)
 go_enter Tryz.func35, Tryz.ntmps35
 go_wp2_with fail
 refine ((kG.calls [] false (-1) (-1) _ rfl).mono ?_)
 rintro e wd1 ⟨v_, rfl, ho_, hb_⟩
 obtain ⟨Af, cf, eo_⟩ := Kd.dQ ho_
 subst eo_
 have n_ : aA (Sep w wd1 [row k67 67 (.slice Af (([] : List S67)).length cf) (([] : List S67))]) := ⟨Sep.iY H.out hb_ ho_ lJ⟩
 clear H
 have H := n_
 clear n_
 clear ho_ hb_
 go_wp2_with fail
 refine ((HO1.out _ _ _ (H.out.reads aJ).2.2 (H.out.reads aJ).2.1 (HG.out.below H.out.below)).mono ?_)
 rintro e wd2 ⟨A0, c0, B0, d0, rfl, HJ⟩
 have n_ : aA (Sep w wd2 [row k67 67 (.slice A0 (Q0.L.l).length c0) Q0.L.l, row k41 41 (.slice B0 (Q0.es).length d0) Q0.es, row k67 67 (.slice Af (([] : List S67)).length cf) (([] : List S67))]) := ⟨eY H.out HJ.out⟩
 clear H
 have H := n_
 clear n_
 clear HJ
 simp only [qc, lgc, List.cons_append, List.nil_append]
 have n_ : aA (Sep w wd2 [row k67 67 (.slice A0 (Q0.L.l).length c0) Q0.L.l, row k41 41 (.slice B0 (Q0.es).length d0) Q0.es]) := ⟨Sep.drop2 H.out⟩
 clear H
 have H := n_
 clear n_
 go_wp2_with (first
 |((with_reducible refine aP (N := 1) rfl ?_);
   refine bG rfl H (cs := [.slice none 0 0, .bool false, .int .i64 0, .int .i64 0, .int .i64 0, .int .u64 0, .int .u64 0, .bool false, .slice none 0 0, .int .i64 0]) (t := 33) ?hr ?_;
   (case hr => first | (go_simp; done) | (go_simp; rfl));
   intro g1 wd3 n_;
   simp only [Act.put, zA, zZ, zS];
   clear H;
   have H := n_;
   clear n_;
   have c_1 := H.out.cell (g := g1) aJ;
   have z_1 := H.out.frozen (g := g1) aJ)
 |((with_reducible refine aN (t := 33) (p := 1) rfl ?_);
   refine aZ (rs1 := [box g1 [.slice A0 Q0.L.l.length c0, .bool Q0.L.dn, .int .i64 Q0.L.fu, .int .i64 Q0.L.fa, .int .i64 Q0.L.size, .int .u64 Q0.L.fr, .int .u64 Q0.L.nx, .bool Q0.L.br, .slice B0 Q0.es.length d0, .int .i64 Q0.most] 33, row k67 67 (.slice A0 (Q0.L.l).length c0) Q0.L.l, row k41 41 (.slice B0 (Q0.es).length d0) Q0.es]) rfl (t := 33) (p := 1) rfl rfl ?hr (H1 := (Sep.set0 (Sep.set0 (Sep.set0 (Sep.set0 (Sep.set0 (Sep.set0 (Sep.set0 (Sep.set0 (Sep.set0 (Sep.set0 H.out 0 (.slice A0 Q0.L.l.length c0) rfl) 1 (.bool Q0.L.dn) rfl) 2 (.int .i64 Q0.L.fu) rfl) 3 (.int .i64 Q0.L.fa) rfl) 4 (.int .i64 Q0.L.size) rfl) 5 (.int .u64 Q0.L.fr) rfl) 6 (.int .u64 Q0.L.nx) rfl) 7 (.bool Q0.L.br) rfl) 8 (.slice B0 Q0.es.length d0) rfl) 9 (.int .i64 Q0.most) rfl)) ?_;
   (case hr => first | (go_simp; done) | (go_simp; rfl));
   intro wd4 n_;
   clear H c_1 z_1;
   have H := n_;
   clear n_;
   have c_1 := H.out.cell (g := g1) aJ;
   have z_1 := H.out.frozen (g := g1) aJ)
 |fail)
 refine ((HP1.out _ _ _ _ _ (H.out.reads mem1).2.2 (H.out.reads mem1).2.1 (H.out.reads mem2).2.2 (H.out.reads mem2).2.1 (HG.out.below H.out.below)).mono ?_)
 rintro e wd5 ⟨A1, c1, B1, d1, rfl, HJ⟩
 have n_ : aA (Sep w wd5 [row k67 67 (.slice A1 (Q1.L.l).length c1) Q1.L.l, row k41 41 (.slice B1 (Q1.es).length d1) Q1.es, box g1 [.slice A0 Q0.L.l.length c0, .bool Q0.L.dn, .int .i64 Q0.L.fu, .int .i64 Q0.L.fa, .int .i64 Q0.L.size, .int .u64 Q0.L.fr, .int .u64 Q0.L.nx, .bool Q0.L.br, .slice B0 Q0.es.length d0, .int .i64 Q0.most] 33, row k67 67 (.slice A0 (Q0.L.l).length c0) Q0.L.l, row k41 41 (.slice B0 (Q0.es).length d0) Q0.es]) := ⟨eY H.out HJ.out⟩
 clear H c_1 z_1
 have H := n_
 clear n_
 have c_1 := H.out.cell (g := g1) mem2
 have z_1 := H.out.frozen (g := g1) mem2
 clear HJ
 simp only [qc, lgc, List.cons_append, List.nil_append]
 have n_ : aA (Sep w wd5 [row k67 67 (.slice A1 (Q1.L.l).length c1) Q1.L.l, row k41 41 (.slice B1 (Q1.es).length d1) Q1.es, box g1 [.slice A0 Q0.L.l.length c0, .bool Q0.L.dn, .int .i64 Q0.L.fu, .int .i64 Q0.L.fa, .int .i64 Q0.L.size, .int .u64 Q0.L.fr, .int .u64 Q0.L.nx, .bool Q0.L.br, .slice B0 Q0.es.length d0, .int .i64 Q0.most] 33, row k41 41 (.slice B0 (Q0.es).length d0) Q0.es]) := ⟨Sep.gK H.out⟩
 clear H c_1 z_1
 have H := n_
 clear n_
 have c_1 := H.out.cell (g := g1) mem2
 have z_1 := H.out.frozen (g := g1) mem2
 have n_ : aA (Sep w wd5 [row k67 67 (.slice A1 (Q1.L.l).length c1) Q1.L.l, row k41 41 (.slice B1 (Q1.es).length d1) Q1.es, box g1 [.slice A0 Q0.L.l.length c0, .bool Q0.L.dn, .int .i64 Q0.L.fu, .int .i64 Q0.L.fa, .int .i64 Q0.L.size, .int .u64 Q0.L.fr, .int .u64 Q0.L.nx, .bool Q0.L.br, .slice B0 Q0.es.length d0, .int .i64 Q0.most] 33]) := ⟨Sep.gK H.out⟩
 clear H c_1 z_1
 have H := n_
 clear n_
 have c_1 := H.out.cell (g := g1) mem2
 have z_1 := H.out.frozen (g := g1) mem2
 go_wp2_with (first
 |((with_reducible refine aN (t := 33) (p := 1) rfl ?_);
   refine aZ (rs1 := [row k67 67 (.slice A1 (Q1.L.l).length c1) Q1.L.l, row k41 41 (.slice B1 (Q1.es).length d1) Q1.es, box g1 [.slice A1 Q1.L.l.length c1, .bool Q1.L.dn, .int .i64 Q1.L.fu, .int .i64 Q1.L.fa, .int .i64 Q1.L.size, .int .u64 Q1.L.fr, .int .u64 Q1.L.nx, .bool Q1.L.br, .slice B1 Q1.es.length d1, .int .i64 Q1.most] 33]) rfl (t := 33) (p := 1) rfl rfl ?hr (H1 := (Sep.set2 (Sep.set2 (Sep.set2 (Sep.set2 (Sep.set2 (Sep.set2 (Sep.set2 (Sep.set2 (Sep.set2 (Sep.set2 H.out 0 (.slice A1 Q1.L.l.length c1) rfl) 1 (.bool Q1.L.dn) rfl) 2 (.int .i64 Q1.L.fu) rfl) 3 (.int .i64 Q1.L.fa) rfl) 4 (.int .i64 Q1.L.size) rfl) 5 (.int .u64 Q1.L.fr) rfl) 6 (.int .u64 Q1.L.nx) rfl) 7 (.bool Q1.L.br) rfl) 8 (.slice B1 Q1.es.length d1) rfl) 9 (.int .i64 Q1.most) rfl)) ?_;
   (case hr => first | (go_simp; done) | (go_simp; rfl));
   intro wd6 n_;
   clear H c_1 z_1;
   have H := n_;
   clear n_;
   have c_1 := H.out.cell (g := g1) mem2;
   have z_1 := H.out.frozen (g := g1) mem2)
 |fail)
 refine ((HP2.out _ _ _ _ _ (H.out.reads aJ).2.2 (H.out.reads aJ).2.1 (H.out.reads mem1).2.2 (H.out.reads mem1).2.1 (HG.out.below H.out.below)).mono ?_)
 rintro e wd7 ⟨A2, c2, B2, d2, rfl, HJ⟩
 have n_ : aA (Sep w wd7 [row k67 67 (.slice A2 (Q2.L.l).length c2) Q2.L.l, row k41 41 (.slice B2 (Q2.es).length d2) Q2.es, row k67 67 (.slice A1 (Q1.L.l).length c1) Q1.L.l, row k41 41 (.slice B1 (Q1.es).length d1) Q1.es, box g1 [.slice A1 Q1.L.l.length c1, .bool Q1.L.dn, .int .i64 Q1.L.fu, .int .i64 Q1.L.fa, .int .i64 Q1.L.size, .int .u64 Q1.L.fr, .int .u64 Q1.L.nx, .bool Q1.L.br, .slice B1 Q1.es.length d1, .int .i64 Q1.most] 33]) := ⟨eY H.out HJ.out⟩
 clear H c_1 z_1
 have H := n_
 clear n_
 have c_1 := H.out.cell (g := g1) bK
 have z_1 := H.out.frozen (g := g1) bK
 clear HJ
 simp only [qc, lgc, List.cons_append, List.nil_append]
 have n_ : aA (Sep w wd7 [row k67 67 (.slice A2 (Q2.L.l).length c2) Q2.L.l, row k41 41 (.slice B2 (Q2.es).length d2) Q2.es, row k41 41 (.slice B1 (Q1.es).length d1) Q1.es, box g1 [.slice A1 Q1.L.l.length c1, .bool Q1.L.dn, .int .i64 Q1.L.fu, .int .i64 Q1.L.fa, .int .i64 Q1.L.size, .int .u64 Q1.L.fr, .int .u64 Q1.L.nx, .bool Q1.L.br, .slice B1 Q1.es.length d1, .int .i64 Q1.most] 33]) := ⟨Sep.drop2 H.out⟩
 clear H c_1 z_1
 have H := n_
 clear n_
 have c_1 := H.out.cell (g := g1) mem3
 have z_1 := H.out.frozen (g := g1) mem3
 have n_ : aA (Sep w wd7 [row k67 67 (.slice A2 (Q2.L.l).length c2) Q2.L.l, row k41 41 (.slice B2 (Q2.es).length d2) Q2.es, box g1 [.slice A1 Q1.L.l.length c1, .bool Q1.L.dn, .int .i64 Q1.L.fu, .int .i64 Q1.L.fa, .int .i64 Q1.L.size, .int .u64 Q1.L.fr, .int .u64 Q1.L.nx, .bool Q1.L.br, .slice B1 Q1.es.length d1, .int .i64 Q1.most] 33]) := ⟨Sep.drop2 H.out⟩
 clear H c_1 z_1
 have H := n_
 clear n_
 have c_1 := H.out.cell (g := g1) mem2
 have z_1 := H.out.frozen (g := g1) mem2
 go_wp2_with (first
 |((with_reducible refine aN (t := 33) (p := 1) rfl ?_);
   refine aZ (rs1 := [row k67 67 (.slice A2 (Q2.L.l).length c2) Q2.L.l, row k41 41 (.slice B2 (Q2.es).length d2) Q2.es, box g1 [.slice A2 Q2.L.l.length c2, .bool Q2.L.dn, .int .i64 Q2.L.fu, .int .i64 Q2.L.fa, .int .i64 Q2.L.size, .int .u64 Q2.L.fr, .int .u64 Q2.L.nx, .bool Q2.L.br, .slice B2 Q2.es.length d2, .int .i64 Q2.most] 33]) rfl (t := 33) (p := 1) rfl rfl ?hr (H1 := (Sep.set2 (Sep.set2 (Sep.set2 (Sep.set2 (Sep.set2 (Sep.set2 (Sep.set2 (Sep.set2 (Sep.set2 (Sep.set2 H.out 0 (.slice A2 Q2.L.l.length c2) rfl) 1 (.bool Q2.L.dn) rfl) 2 (.int .i64 Q2.L.fu) rfl) 3 (.int .i64 Q2.L.fa) rfl) 4 (.int .i64 Q2.L.size) rfl) 5 (.int .u64 Q2.L.fr) rfl) 6 (.int .u64 Q2.L.nx) rfl) 7 (.bool Q2.L.br) rfl) 8 (.slice B2 Q2.es.length d2) rfl) 9 (.int .i64 Q2.most) rfl)) ?_;
   (case hr => first | (go_simp; done) | (go_simp; rfl));
   intro wd8 n_;
   clear H c_1 z_1;
   have H := n_;
   clear n_;
   have c_1 := H.out.cell (g := g1) mem2;
   have z_1 := H.out.frozen (g := g1) mem2)
 |fail)
 refine ((HLE.out _ _ _ _ _ (H.out.reads aJ).2.2 (H.out.reads aJ).2.1 (H.out.reads mem1).2.2 (H.out.reads mem1).2.1 (HG.out.below H.out.below)).mono ?_)
 rintro e wd9 ⟨A3, c3, B3, d3, rfl, HJ⟩
 have n_ : aA (Sep w wd9 [row k67 67 (.slice A3 (Q3.L.l).length c3) Q3.L.l, row k41 41 (.slice B3 (Q3.es).length d3) Q3.es, row k67 67 (.slice A2 (Q2.L.l).length c2) Q2.L.l, row k41 41 (.slice B2 (Q2.es).length d2) Q2.es, box g1 [.slice A2 Q2.L.l.length c2, .bool Q2.L.dn, .int .i64 Q2.L.fu, .int .i64 Q2.L.fa, .int .i64 Q2.L.size, .int .u64 Q2.L.fr, .int .u64 Q2.L.nx, .bool Q2.L.br, .slice B2 Q2.es.length d2, .int .i64 Q2.most] 33]) := ⟨eY H.out HJ.out⟩
 clear H c_1 z_1
 have H := n_
 clear n_
 have c_1 := H.out.cell (g := g1) bK
 have z_1 := H.out.frozen (g := g1) bK
 clear HJ
 simp only [qc, lgc, List.cons_append, List.nil_append]
 have n_ : aA (Sep w wd9 [row k67 67 (.slice A3 (Q3.L.l).length c3) Q3.L.l, row k41 41 (.slice B3 (Q3.es).length d3) Q3.es, row k41 41 (.slice B2 (Q2.es).length d2) Q2.es, box g1 [.slice A2 Q2.L.l.length c2, .bool Q2.L.dn, .int .i64 Q2.L.fu, .int .i64 Q2.L.fa, .int .i64 Q2.L.size, .int .u64 Q2.L.fr, .int .u64 Q2.L.nx, .bool Q2.L.br, .slice B2 Q2.es.length d2, .int .i64 Q2.most] 33]) := ⟨Sep.drop2 H.out⟩
 clear H c_1 z_1
 have H := n_
 clear n_
 have c_1 := H.out.cell (g := g1) mem3
 have z_1 := H.out.frozen (g := g1) mem3
 have n_ : aA (Sep w wd9 [row k67 67 (.slice A3 (Q3.L.l).length c3) Q3.L.l, row k41 41 (.slice B3 (Q3.es).length d3) Q3.es, box g1 [.slice A2 Q2.L.l.length c2, .bool Q2.L.dn, .int .i64 Q2.L.fu, .int .i64 Q2.L.fa, .int .i64 Q2.L.size, .int .u64 Q2.L.fr, .int .u64 Q2.L.nx, .bool Q2.L.br, .slice B2 Q2.es.length d2, .int .i64 Q2.most] 33]) := ⟨Sep.drop2 H.out⟩
 clear H c_1 z_1
 have H := n_
 clear n_
 have c_1 := H.out.cell (g := g1) mem2
 have z_1 := H.out.frozen (g := g1) mem2
 clear c_1 z_1
 have c_1 := H.out.cell (g := g1) mem2
 have z_1 := H.out.frozen (g := g1) mem2
 go_wp2_with (first
 |((with_reducible refine aP (N := 7) rfl ?_);
   refine bG rfl H (cs := [.int .u64 0, .string ⟨#[]⟩, .bool false]) (t := 41) ?hr ?_;
   (case hr => first | (go_simp; done) | (go_simp; rfl));
   intro g7 FC n_;
   simp only [Act.put, zA, zZ, zS];
   clear H c_1 z_1;
   have H := n_;
   clear n_;
   have c_7 := H.out.cell (g := g7) aJ;
   have z_7 := H.out.frozen (g := g7) aJ;
   have c_1 := H.out.cell (g := g1) mem3;
   have z_1 := H.out.frozen (g := g1) mem3)
 |((with_reducible refine aN (t := 33) (p := 1) rfl ?_);
   refine aZ (rs1 := [box g7 [.int .u64 0, .string ⟨#[]⟩, .bool false] 41, row k67 67 (.slice A3 (Q3.L.l).length c3) Q3.L.l, row k41 41 (.slice B3 (Q3.es).length d3) Q3.es, box g1 [.slice A3 Q3.L.l.length c3, .bool Q3.L.dn, .int .i64 Q3.L.fu, .int .i64 Q3.L.fa, .int .i64 Q3.L.size, .int .u64 Q3.L.fr, .int .u64 Q3.L.nx, .bool Q3.L.br, .slice B3 Q3.es.length d3, .int .i64 Q3.most] 33]) rfl (t := 33) (p := 1) rfl rfl ?hr (H1 := (Sep.dZ (Sep.dZ (Sep.dZ (Sep.dZ (Sep.dZ (Sep.dZ (Sep.dZ (Sep.dZ (Sep.dZ (Sep.dZ H.out 0 (.slice A3 Q3.L.l.length c3) rfl) 1 (.bool Q3.L.dn) rfl) 2 (.int .i64 Q3.L.fu) rfl) 3 (.int .i64 Q3.L.fa) rfl) 4 (.int .i64 Q3.L.size) rfl) 5 (.int .u64 Q3.L.fr) rfl) 6 (.int .u64 Q3.L.nx) rfl) 7 (.bool Q3.L.br) rfl) 8 (.slice B3 Q3.es.length d3) rfl) 9 (.int .i64 Q3.most) rfl)) ?_;
   (case hr => first | (go_simp; done) | (go_simp; rfl));
   intro MH n_;
   clear H c_7 z_7 c_1 z_1;
   have H := n_;
   clear n_;
   have c_7 := H.out.cell (g := g7) aJ;
   have z_7 := H.out.frozen (g := g7) aJ;
   have c_1 := H.out.cell (g := g1) mem3;
   have z_1 := H.out.frozen (g := g1) mem3)
 |((with_reducible refine aN (t := 41) (p := 7) rfl ?_);
   refine aZ (rs1 := [box g7 [.int .u64 1, .string ⟨#[97]⟩, .bool true] 41, row k67 67 (.slice A3 (Q3.L.l).length c3) Q3.L.l, row k41 41 (.slice B3 (Q3.es).length d3) Q3.es, box g1 [.slice A3 Q3.L.l.length c3, .bool Q3.L.dn, .int .i64 Q3.L.fu, .int .i64 Q3.L.fa, .int .i64 Q3.L.size, .int .u64 Q3.L.fr, .int .u64 Q3.L.nx, .bool Q3.L.br, .slice B3 Q3.es.length d3, .int .i64 Q3.most] 33]) rfl (t := 41) (p := 7) rfl rfl ?hr (H1 := (Sep.set0 (Sep.set0 (Sep.set0 H.out 0 (.int .u64 1) rfl) 1 (.string ⟨#[97]⟩) rfl) 2 (.bool true) rfl)) ?_;
   (case hr => first | (go_simp; done) | (go_simp; rfl));
   intro DU n_;
   clear H c_7 z_7 c_1 z_1;
   have H := n_;
   clear n_;
   have c_7 := H.out.cell (g := g7) aJ;
   have z_7 := H.out.frozen (g := g7) aJ;
   have c_1 := H.out.cell (g := g1) mem3;
   have z_1 := H.out.frozen (g := g1) mem3)
 |fail)
 refine ((HAK.out _ _ _ _ _ (H.out.reads mem1).2.2 (H.out.reads mem1).2.1 (H.out.reads mem2).2.2 (H.out.reads mem2).2.1 (HG.out.below H.out.below)).mono ?_)
 rintro e KI ⟨A4, c4, B4, d4, rfl, HJ⟩
 have n_ : aA (Sep w KI [row k67 67 (.slice A4 (Q4.L.l).length c4) Q4.L.l, row k41 41 (.slice B4 (Q4.es).length d4) Q4.es, box g7 [.int .u64 1, .string ⟨#[97]⟩, .bool true] 41, row k67 67 (.slice A3 (Q3.L.l).length c3) Q3.L.l, row k41 41 (.slice B3 (Q3.es).length d3) Q3.es, box g1 [.slice A3 Q3.L.l.length c3, .bool Q3.L.dn, .int .i64 Q3.L.fu, .int .i64 Q3.L.fa, .int .i64 Q3.L.size, .int .u64 Q3.L.fr, .int .u64 Q3.L.nx, .bool Q3.L.br, .slice B3 Q3.es.length d3, .int .i64 Q3.most] 33]) := ⟨eY H.out HJ.out⟩
 clear H c_7 z_7 c_1 z_1
 have H := n_
 clear n_
 have c_7 := H.out.cell (g := g7) mem2
 have z_7 := H.out.frozen (g := g7) mem2
 have c_1 := H.out.cell (g := g1) dJ
 have z_1 := H.out.frozen (g := g1) dJ
 clear HJ
 simp only [qc, lgc, List.cons_append, List.nil_append]
 have n_ : aA (Sep w KI [row k67 67 (.slice A4 (Q4.L.l).length c4) Q4.L.l, row k41 41 (.slice B4 (Q4.es).length d4) Q4.es, box g7 [.int .u64 1, .string ⟨#[97]⟩, .bool true] 41, row k41 41 (.slice B3 (Q3.es).length d3) Q3.es, box g1 [.slice A3 Q3.L.l.length c3, .bool Q3.L.dn, .int .i64 Q3.L.fu, .int .i64 Q3.L.fa, .int .i64 Q3.L.size, .int .u64 Q3.L.fr, .int .u64 Q3.L.nx, .bool Q3.L.br, .slice B3 Q3.es.length d3, .int .i64 Q3.most] 33]) := ⟨Sep.gK H.out⟩
 clear H c_7 z_7 c_1 z_1
 have H := n_
 clear n_
 have c_7 := H.out.cell (g := g7) mem2
 have z_7 := H.out.frozen (g := g7) mem2
 have c_1 := H.out.cell (g := g1) bK
 have z_1 := H.out.frozen (g := g1) bK
 have n_ : aA (Sep w KI [row k67 67 (.slice A4 (Q4.L.l).length c4) Q4.L.l, row k41 41 (.slice B4 (Q4.es).length d4) Q4.es, box g7 [.int .u64 1, .string ⟨#[97]⟩, .bool true] 41, box g1 [.slice A3 Q3.L.l.length c3, .bool Q3.L.dn, .int .i64 Q3.L.fu, .int .i64 Q3.L.fa, .int .i64 Q3.L.size, .int .u64 Q3.L.fr, .int .u64 Q3.L.nx, .bool Q3.L.br, .slice B3 Q3.es.length d3, .int .i64 Q3.most] 33]) := ⟨Sep.gK H.out⟩
 clear H c_7 z_7 c_1 z_1
 have H := n_
 clear n_
 have c_7 := H.out.cell (g := g7) mem2
 have z_7 := H.out.frozen (g := g7) mem2
 have c_1 := H.out.cell (g := g1) mem3
 have z_1 := H.out.frozen (g := g1) mem3
 go_wp2_with (first
 |((with_reducible refine aN (t := 33) (p := 1) rfl ?_);
   refine aZ (rs1 := [row k67 67 (.slice A4 (Q4.L.l).length c4) Q4.L.l, row k41 41 (.slice B4 (Q4.es).length d4) Q4.es, box g7 [.int .u64 1, .string ⟨#[97]⟩, .bool true] 41, box g1 [.slice A4 Q4.L.l.length c4, .bool Q4.L.dn, .int .i64 Q4.L.fu, .int .i64 Q4.L.fa, .int .i64 Q4.L.size, .int .u64 Q4.L.fr, .int .u64 Q4.L.nx, .bool Q4.L.br, .slice B4 Q4.es.length d4, .int .i64 Q4.most] 33]) rfl (t := 33) (p := 1) rfl rfl ?hr (H1 := (Sep.dZ (Sep.dZ (Sep.dZ (Sep.dZ (Sep.dZ (Sep.dZ (Sep.dZ (Sep.dZ (Sep.dZ (Sep.dZ H.out 0 (.slice A4 Q4.L.l.length c4) rfl) 1 (.bool Q4.L.dn) rfl) 2 (.int .i64 Q4.L.fu) rfl) 3 (.int .i64 Q4.L.fa) rfl) 4 (.int .i64 Q4.L.size) rfl) 5 (.int .u64 Q4.L.fr) rfl) 6 (.int .u64 Q4.L.nx) rfl) 7 (.bool Q4.L.br) rfl) 8 (.slice B4 Q4.es.length d4) rfl) 9 (.int .i64 Q4.most) rfl)) ?_;
   (case hr => first | (go_simp; done) | (go_simp; rfl));
   intro U2 n_;
   clear H c_7 z_7 c_1 z_1;
   have H := n_;
   clear n_;
   have c_7 := H.out.cell (g := g7) mem2;
   have z_7 := H.out.frozen (g := g7) mem2;
   have c_1 := H.out.cell (g := g1) mem3;
   have z_1 := H.out.frozen (g := g1) mem3)
 |fail)
 refine ((HO2.out _ _ _ (H.out.reads aJ).2.2 (H.out.reads aJ).2.1 (HG.out.below H.out.below)).mono ?_)
 rintro e OV ⟨A5, c5, B5, d5, rfl, HJ⟩
 have n_ : aA (Sep w OV [row k67 67 (.slice A5 (Q5.L.l).length c5) Q5.L.l, row k41 41 (.slice B5 (Q5.es).length d5) Q5.es, row k67 67 (.slice A4 (Q4.L.l).length c4) Q4.L.l, row k41 41 (.slice B4 (Q4.es).length d4) Q4.es, box g7 [.int .u64 1, .string ⟨#[97]⟩, .bool true] 41, box g1 [.slice A4 Q4.L.l.length c4, .bool Q4.L.dn, .int .i64 Q4.L.fu, .int .i64 Q4.L.fa, .int .i64 Q4.L.size, .int .u64 Q4.L.fr, .int .u64 Q4.L.nx, .bool Q4.L.br, .slice B4 Q4.es.length d4, .int .i64 Q4.most] 33]) := ⟨eY H.out HJ.out⟩
 clear H c_7 z_7 c_1 z_1
 have H := n_
 clear n_
 have c_7 := H.out.cell (g := g7) bK
 have z_7 := H.out.frozen (g := g7) bK
 have c_1 := H.out.cell (g := g1) dJ
 have z_1 := H.out.frozen (g := g1) dJ
 clear HJ
 simp only [qc, lgc, List.cons_append, List.nil_append]
 have n_ : aA (Sep w OV [row k67 67 (.slice A5 (Q5.L.l).length c5) Q5.L.l, row k41 41 (.slice B5 (Q5.es).length d5) Q5.es, row k41 41 (.slice B4 (Q4.es).length d4) Q4.es, box g7 [.int .u64 1, .string ⟨#[97]⟩, .bool true] 41, box g1 [.slice A4 Q4.L.l.length c4, .bool Q4.L.dn, .int .i64 Q4.L.fu, .int .i64 Q4.L.fa, .int .i64 Q4.L.size, .int .u64 Q4.L.fr, .int .u64 Q4.L.nx, .bool Q4.L.br, .slice B4 Q4.es.length d4, .int .i64 Q4.most] 33]) := ⟨Sep.drop2 H.out⟩
 clear H c_7 z_7 c_1 z_1
 have H := n_
 clear n_
 have c_7 := H.out.cell (g := g7) mem3
 have z_7 := H.out.frozen (g := g7) mem3
 have c_1 := H.out.cell (g := g1) bK
 have z_1 := H.out.frozen (g := g1) bK
 have n_ : aA (Sep w OV [row k67 67 (.slice A5 (Q5.L.l).length c5) Q5.L.l, row k41 41 (.slice B5 (Q5.es).length d5) Q5.es, box g7 [.int .u64 1, .string ⟨#[97]⟩, .bool true] 41, box g1 [.slice A4 Q4.L.l.length c4, .bool Q4.L.dn, .int .i64 Q4.L.fu, .int .i64 Q4.L.fa, .int .i64 Q4.L.size, .int .u64 Q4.L.fr, .int .u64 Q4.L.nx, .bool Q4.L.br, .slice B4 Q4.es.length d4, .int .i64 Q4.most] 33]) := ⟨Sep.drop2 H.out⟩
 clear H c_7 z_7 c_1 z_1
 have H := n_
 clear n_
 have c_7 := H.out.cell (g := g7) mem2
 have z_7 := H.out.frozen (g := g7) mem2
 have c_1 := H.out.cell (g := g1) mem3
 have z_1 := H.out.frozen (g := g1) mem3
 clear c_7 z_7 c_1 z_1
 have c_7 := H.out.cell (g := g7) mem2
 have c_1 := H.out.cell (g := g1) mem3
 have z_1 := H.out.frozen (g := g1) mem3
 go_upto_region 7 with (first
 |((with_reducible refine aP (N := 10) rfl ?_);
   refine bG rfl H (cs := [.slice none 0 0, .bool false, .int .i64 0, .int .i64 0, .int .i64 0, .int .u64 0, .int .u64 0, .bool false, .slice none 0 0, .int .i64 0]) (t := 33) ?hr ?_;
   (case hr => first | (go_simp; done) | (go_simp; rfl));
   intro g10 qbA n_;
   simp only [Act.put, zA, zZ, zS];
   clear H c_7 c_1 z_1;
   have H := n_;
   clear n_;
   have qfI := H.out.cell (g := g10) aJ;
   have qfJ := H.out.frozen (g := g10) aJ;
   have c_7 := H.out.cell (g := g7) mem3;
   have c_1 := H.out.cell (g := g1) bK;
   have z_1 := H.out.frozen (g := g1) bK)
 |((with_reducible refine aN (t := 33) (p := 10) rfl ?_);
   refine aZ (rs1 := [box g10 [.slice A5 Q5.L.l.length c5, .bool Q5.L.dn, .int .i64 Q5.L.fu, .int .i64 Q5.L.fa, .int .i64 Q5.L.size, .int .u64 Q5.L.fr, .int .u64 Q5.L.nx, .bool Q5.L.br, .slice B5 Q5.es.length d5, .int .i64 Q5.most] 33, row k67 67 (.slice A5 (Q5.L.l).length c5) Q5.L.l, row k41 41 (.slice B5 (Q5.es).length d5) Q5.es, box g7 [.int .u64 1, .string ⟨#[97]⟩, .bool true] 41, box g1 [.slice A4 Q4.L.l.length c4, .bool Q4.L.dn, .int .i64 Q4.L.fu, .int .i64 Q4.L.fa, .int .i64 Q4.L.size, .int .u64 Q4.L.fr, .int .u64 Q4.L.nx, .bool Q4.L.br, .slice B4 Q4.es.length d4, .int .i64 Q4.most] 33]) rfl (t := 33) (p := 10) rfl rfl ?hr (H1 := (Sep.set0 (Sep.set0 (Sep.set0 (Sep.set0 (Sep.set0 (Sep.set0 (Sep.set0 (Sep.set0 (Sep.set0 (Sep.set0 H.out 0 (.slice A5 Q5.L.l.length c5) rfl) 1 (.bool Q5.L.dn) rfl) 2 (.int .i64 Q5.L.fu) rfl) 3 (.int .i64 Q5.L.fa) rfl) 4 (.int .i64 Q5.L.size) rfl) 5 (.int .u64 Q5.L.fr) rfl) 6 (.int .u64 Q5.L.nx) rfl) 7 (.bool Q5.L.br) rfl) 8 (.slice B5 Q5.es.length d5) rfl) 9 (.int .i64 Q5.most) rfl)) ?_;
   (case hr => first | (go_simp; done) | (go_simp; rfl));
   intro qbB n_;
   clear H qfI qfJ c_7 c_1 z_1;
   have H := n_;
   clear n_;
   have qfI := H.out.cell (g := g10) aJ;
   have qfJ := H.out.frozen (g := g10) aJ;
   have c_7 := H.out.cell (g := g7) mem3;
   have c_1 := H.out.cell (g := g1) bK;
   have z_1 := H.out.frozen (g := g1) bK)
 |fail)
 have hel : Q5.es.length = 1 := by rw [HE5.out]; rfl
 have qjj : (Q5.es.length : Int) = 1 := by rw [hel]; rfl
 obtain ⟨gp, hgp⟩ := pK (B := B5) (d := d5) (es := Q5.es) H.out mem2 (by omega)
 subst hgp
 obtain ⟨q0, q1, q2, -⟩ := qA (gp := gp) (d := d5) (es := Q5.es) (i := 0) (x := ⟨2, ⟨#[98]⟩, false⟩) H.out mem2 (by rw [HE5.out]; rfl)
 simp only [Nat.zero_mul, Nat.zero_add] at q0 q1 q2
 have qjk : (0 : Int) < (Q5.es.length : Int) := by omega
 have qjl : 0 < Q5.es.length := by omega
 clear hel
 go_wp2_with fail
 go_ret
 exact ⟨rfl, H.out.below⟩
end Go.Proofs.U
