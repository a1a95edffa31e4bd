import Derived.Test.YtanonhipicoigaaGreatDoorZRao
import Derived.Test.YtanonhipicoigaaGreatDoorZRap
import Derived.Test.YtanonhipicoigaaGreatDoorZRag
set_option linter.unusedVariables false
set_option linter.unusedSimpArgs false
set_option maxRecDepth 100000
namespace Go.Proofs.U
open Go.Proofs.UE (kU rQ)
open Go.RowKit Go.Proofs.aA.aK Go.Proofs.aA.aW Go.Proofs.aA.aX Go.Proofs.Sp Go.Proofs.gB
def P80 : ByteArray := ⟨#[80]⟩
noncomputable def F8 (Q : Qu) (seq : Int) (data : ByteArray) : Qu × Int :=
 if (Q.es.length : Int) < Q.most then
  if data.size < 65536 then
     if (dG Q.L (P80 ++ data)).2 = 0 then (⟨(dG Q.L (P80 ++ data)).1, Q.es ++ [⟨seq, data, false⟩], Q.most⟩, 0)
     else (⟨(dG Q.L (P80 ++ data)).1, Q.es, Q.most⟩, (dG Q.L (P80 ++ data)).2)
  else (Q, 4)
 else (Q, 8)
def free (x : S41) : Bool := !x.f2
def GZ (l : List S41) (i : Nat) : List S41 := match l[i]? with | some x => l.set i ⟨x.f0, x.f1, true⟩ | none => l
def UR (l : List S41) (i : Nat) : List S41 := match l[i]? with | some x => l.set i ⟨x.f0, x.f1, false⟩ | none => l
def sG (Q : Qu) : Qu × Int := match sK free Q.es with
 | some i => (⟨Q.L, GZ Q.es i, Q.most⟩, 0)
 | none => (Q, 7)
def vS (Q : Qu) : S41 := match sK free Q.es with
 | some i => (match Q.es[i]? with | some x => ⟨x.f0, x.f1, true⟩ | none => z41)
 | none => z41
def pG (Q : Qu) (q : Int) : Qu × Int := match sK (lM q) Q.es with
 | some i => (⟨Q.L, UR Q.es i, Q.most⟩, 0)
 | none => (Q, 19)
theorem qU {b : World} {fdo : Nat} {lb : List Value} {Q : Qu} {rs rs' : List Res} {R : Qu} {n : Int} (h : yS b fdo lb Q rs rs' R n) (more : List Res) : yS b fdo lb Q (rs ++ more) (rs' ++ more) R n := by
 intro gl A c B d w ts H
 rw [List.append_assoc] at H ⊢
 exact h gl A c B d w (more ++ ts) H
theorem qdP (b : World) (Q : Qu) : yS b 91 [] Q [] [] Q 5 := by
 intro gl A c B d w ts H
 go_enter Tryz.func91, Tryz.ntmps91
 go_wp2
 exact ⟨rfl, .inr ⟨by decide, rfl⟩, A, c, B, d, H⟩
theorem YE {w : World} {g : Nat} {n : Int} {s : ByteArray} {f : Bool} (h : ∀ j, w.cell? ⟨g, j, none⟩ = [.int .u64 n, .string s, .bool f][j]?) : Kd.C k41 w (some ⟨g, 0, none⟩) [(⟨n, s, f⟩ : S41)].length [⟨n, s, f⟩] := by
 refine ⟨rfl, by simp only [List.length_singleton]; omega, fun _ => ⟨_, rfl, fun j p hj => ?_⟩⟩
 have hj0 : j = 0 := by
  have := (List.getElem?_eq_some_iff.1 hj).1
  simpa using this
 subst hj0
 simp only [List.getElem?_cons_zero, Option.some.injEq] at hj
 subst hj
 refine ⟨_, rfl, qaw w _, fun i u hu => ?_⟩
 rw [add_plain']
 have := h (0 + (0 * k41.sz + i))
 rw [show 0 + (0 * k41.sz + i) = i by omega] at this
 rw [show 0 + (0 * k41.sz + i) = i by omega, this]
 exact hu
set_option maxHeartbeats 8000000 in
theorem qdQ (b : World) (Q : Qu) (gt gs : Nat) (seq : Int) (data : ByteArray) (hG : Gl b) (hnx : 0 ≤ Q.L.nx) (hnx2 : Q.L.nx < 18446744073709551616) (hel : Q.es.length ≤ 1024) : yS b 53 [.pointer (some ⟨gt, 0, none⟩), .pointer (some ⟨gs, 0, none⟩)] Q [box gt [.string data] 9, box gs [.int .u64 seq] 28] [box gt [.string data] 9, box gs [.int .u64 seq] 28] (F8 Q seq data).1 (F8 Q seq data).2 := by
 intro gl A c B d w ts H0
 have HG := aC.mk hG
 have HEL := aC.mk hel
 obtain ⟨R, hR⟩ : ∃ R, R = F8 Q seq data := ⟨_, rfl⟩
 rw [← hR]
 have HR := aC.mk hR
 have HAP := aC.mk (fun A c w hr hc hG => JV A c Q.L (P80 ++ data) w hr hc hG hnx hnx2)
 obtain ⟨L1, e1, hL1⟩ : ∃ L1 e1, dG Q.L (P80 ++ data) = (L1, e1) := ⟨_, _, rfl⟩
 rw [hL1] at HAP
 simp only [lgc] at HAP
 have HL1 := aC.mk hL1
 clear hR hG hL1 hnx hnx2 hel
 have H : aC (Sep b w (box gl [.slice A Q.L.l.length c, .bool Q.L.dn, .int .i64 Q.L.fu, .int .i64 Q.L.fa, .int .i64 Q.L.size, .int .u64 Q.L.fr, .int .u64 Q.L.nx, .bool Q.L.br, .slice B Q.es.length d, .int .i64 Q.most] 101 :: row k67 67 (.slice A (Q.L.l).length c) Q.L.l :: row k41 41 (.slice B (Q.es).length d) Q.es :: box gt [.string data] 9 :: box gs [.int .u64 seq] 28 :: ts)) := H0
 clear H0
 have c_l := H.out.cell (g := gl) aP
 have c_t := H.out.cell (g := gt) mem3
 have c_s := H.out.cell (g := gs) bT
 go_enter Tryz.func53, Tryz.ntmps53
 by_cases hm : (Q.es.length : Int) < Q.most
 ·
  have q1 := decide_eq_true hm
  have HM := aC.mk hm
  clear hm
  go_upto_region 0 with fail
  refine fO (n := 13) (S := fun w' => (∀ j : Nat, w'.cell? ⟨gl, j, none⟩ = [.slice A Q.L.l.length c, .bool Q.L.dn, .int .i64 Q.L.fu, .int .i64 Q.L.fa, .int .i64 Q.L.size, .int .u64 Q.L.fr, .int .u64 Q.L.nx, .bool Q.L.br, .slice B Q.es.length d, .int .i64 Q.most][j]?) ∧ Sp.Sep b w' (box gl [.slice A Q.L.l.length c, .bool Q.L.dn, .int .i64 Q.L.fu, .int .i64 Q.L.fa, .int .i64 Q.L.size, .int .u64 Q.L.fr, .int .u64 Q.L.nx, .bool Q.L.br, .slice B Q.es.length d, .int .i64 Q.most] 101 :: row k67 67 (.slice A (Q.L.l).length c) Q.L.l :: row k41 41 (.slice B (Q.es).length d) Q.es :: box gt [.string data] 9 :: box gs [.int .u64 seq] 28 :: ts)) (ds := []) #[false, false, false, false, false, false, false, false, false, false, false, false, false] (by kernel_rfl) rfl rfl ⟨(fun j => ((Sep.drew H.out)).cell (g := gl) aP j), (Sep.drew H.out)⟩ (fun hHeld => ?_)
  refine puS (i := 0) (N := some 4) (v := ?_) (a' := ?_) rfl rfl (by kernel_rfl) (fun _ _ _ h => h) (Or.inl ⟨by rfl, ?_⟩) ?_ ?_
  rotate_left
  ·intro w'
   go_simp
   with_reducible rfl
  rotate_left
  ·simp only [Act.put, zA, zZ, zS, aI, aJ]
   rfl
  refine puS (i := 1) (N := some 5) (v := ?_) (a' := ?_) rfl rfl (by kernel_rfl) (fun _ _ _ h => h) (Or.inl ⟨by rfl, ?_⟩) ?_ ?_
  rotate_left
  ·intro w'
   go_simp
   with_reducible rfl
  rotate_left
  ·simp only [Act.put, zA, zZ, zS, aI, aJ]
   rfl
  refine puS (i := 2) (N := some 6) (v := ?_) (a' := ?_) rfl rfl (by kernel_rfl) (fun _ _ _ h => h) (Or.inl ⟨by rfl, ?_⟩) ?_ ?_
  rotate_left
  ·intro w'
   go_simp
   with_reducible rfl
  rotate_left
  ·simp only [Act.put, zA, zZ, zS, aI, aJ]
   rfl
  refine puS (i := 3) (N := some 7) (v := ?_) (a' := ?_) rfl rfl (by kernel_rfl) (fun _ _ _ h => h) (Or.inl ⟨by rfl, ?_⟩) ?_ ?_
  rotate_left
  ·intro w'
   go_simp
   with_reducible rfl
  rotate_left
  ·simp only [Act.put, zA, zZ, zS, aI, aJ]
   rfl
  refine puS (i := 6) (N := some 10) (v := ?_) (a' := ?_) rfl rfl (by kernel_rfl) (fun _ _ _ h => h) (Or.inl ⟨by rfl, ?_⟩) ?_ ?_
  rotate_left
  ·intro w'
   go_simp
   with_reducible rfl
  rotate_left
  ·simp only [Act.put, zA, zZ, zS, aI, aJ]
   rfl
  refine puS (i := 7) (N := some 11) (v := ?_) (a' := ?_) rfl rfl (by kernel_rfl) (fun _ _ _ h => h) (Or.inl ⟨by rfl, ?_⟩) ?_ ?_
  rotate_left
  ·intro w'
   go_simp
   with_reducible rfl
  rotate_left
  ·simp only [Act.put, zA, zZ, zS, aI, aJ]
   rfl
  refine puS (i := 8) (N := some 12) (v := ?_) (a' := ?_) rfl rfl (by kernel_rfl) (fun _ _ _ h => h) (Or.inl ⟨by rfl, ?_⟩) ?_ ?_
  rotate_left
  ·intro w'
   go_simp
   with_reducible rfl
  rotate_left
  ·simp only [Act.put, zA, zZ, zS, aI, aJ]
   rfl
  refine puS (i := 9) (N := some 13) (v := ?_) (a' := ?_) rfl rfl (by kernel_rfl) (fun _ _ _ h => h) (Or.inl ⟨by rfl, ?_⟩) ?_ ?_
  rotate_left
  ·intro w'
   go_simp
   with_reducible rfl
  rotate_left
  ·simp only [Act.put, zA, zZ, zS, aI, aJ]
   rfl
  refine tkS (i := 4) (N := some 8) (v := ?_) (a' := ?_) rfl rfl (by kernel_rfl) (fun _ _ _ h => h) (Or.inl ⟨by rfl, ?_⟩) hHeld ?_ ?_
  rotate_left
  ·rintro w' ⟨s0, s1⟩
   go_simp
   with_reducible rfl
  rotate_left
  ·simp only [Act.put, zA, zZ, zS, aI, aJ]
   rfl
  refine puS (i := 5) (N := some 9) (v := ?_) (a' := ?_) rfl rfl (by kernel_rfl) (fun _ _ _ h => h) (Or.inl ⟨by rfl, ?_⟩) ?_ ?_
  rotate_left
  ·intro w'
   go_simp
   with_reducible rfl
  rotate_left
  ·simp only [Act.put, zA, zZ, zS, aI, aJ]
   rfl
  refine tkS (i := 10) (N := some 14) (v := ?_) (a' := ?_) rfl rfl (by kernel_rfl) (fun _ _ _ h => h) (Or.inl ⟨by rfl, ?_⟩) hHeld ?_ ?_
  rotate_left
  ·rintro w' ⟨s0, s1⟩
   go_simp
   with_reducible rfl
  rotate_left
  ·simp only [Act.put, zA, zZ, zS, aI, aJ]
   rfl
  refine puS (i := 11) (N := some 15) (v := ?_) (a' := ?_) rfl rfl (by kernel_rfl) (fun _ _ _ h => h) (Or.inl ⟨by rfl, ?_⟩) ?_ ?_
  rotate_left
  ·intro w'
   go_simp
   with_reducible rfl
  rotate_left
  ·simp only [Act.put, zA, zZ, zS, aI, aJ]
   rfl
  refine onS (i := 12) (N := some 16) rfl rfl (by kernel_rfl) (by decide) (fun K hK => ?_)
  refine oC Tryz.func54 (by kernel_rfl) rfl #[.bool true, .int .i64 8] (by rfl) rfl rfl (by simp only [List.map_toArray, List.map_cons, List.map_nil]; rfl) ?_
  with_reducible refine (rP 8 _).mono ?_
  rintro e w5 ⟨rfl, rfl⟩
  refine ⟨_, rfl, ?_⟩
  refine hK.out _ _ ⟨(fun j => (hHeld.2).cell (g := gl) aP j), hHeld.2⟩ (fun hHeld => ?_)
  clear hK K
  refine fE (a' := ?_) ?_ ?_
  rotate_left
  ·show Act.put _ (some 16) _ = _
   simp only [Act.put, zA, zZ, zS, aI, aJ]
   rfl
  refine iT (by kernel_rfl) ?_
  refine qI (rs := (box gl [.slice A Q.L.l.length c, .bool Q.L.dn, .int .i64 Q.L.fu, .int .i64 Q.L.fa, .int .i64 Q.L.size, .int .u64 Q.L.fr, .int .u64 Q.L.nx, .bool Q.L.br, .slice B Q.es.length d, .int .i64 Q.most] 101 :: row k67 67 (.slice A (Q.L.l).length c) Q.L.l :: row k41 41 (.slice B (Q.es).length d) Q.es :: box gt [.string data] 9 :: box gs [.int .u64 seq] 28 :: ts)) (Sep.drew H.out) ?_
  clear q1
  intro wd1 n_
  clear H c_l c_t c_s
  have H := n_
  clear n_
  have c_l := H.out.cell (g := gl) aP
  have c_t := H.out.cell (g := gt) mem3
  have c_s := H.out.cell (g := gs) bT
  by_cases hd : data.size < 65536
  ·
   have q1 : decide ((data.size : Int) < 65536) = true := decide_eq_true (by omega)
   have HD := aC.mk hd
   go_wp2_with fail
   try simp only [q1]
   refine (rP 4 _).mono ?_
   rintro e w_ ⟨rfl, rfl⟩
   have qiu : ¬ 9223372036854775807 < 1 + data.size := by omega
   clear q1 hd
   go_upto_region 2 with fail
   refine fO (n := 12) (S := fun w' => (∀ j : Nat, w'.cell? ⟨gl, j, none⟩ = [.slice A Q.L.l.length c, .bool Q.L.dn, .int .i64 Q.L.fu, .int .i64 Q.L.fa, .int .i64 Q.L.size, .int .u64 Q.L.fr, .int .u64 Q.L.nx, .bool Q.L.br, .slice B Q.es.length d, .int .i64 Q.most][j]?) ∧ (∀ j : Nat, w'.cell? ⟨gt, j, none⟩ = [.string data][j]?) ∧ Sp.Sep b w' (box gl [.slice A Q.L.l.length c, .bool Q.L.dn, .int .i64 Q.L.fu, .int .i64 Q.L.fa, .int .i64 Q.L.size, .int .u64 Q.L.fr, .int .u64 Q.L.nx, .bool Q.L.br, .slice B Q.es.length d, .int .i64 Q.most] 101 :: row k67 67 (.slice A (Q.L.l).length c) Q.L.l :: row k41 41 (.slice B (Q.es).length d) Q.es :: box gt [.string data] 9 :: box gs [.int .u64 seq] 28 :: ts)) (ds := [11]) #[false, false, false, false, false, false, false, false, false, false, false, false] (by kernel_rfl) rfl rfl ⟨(fun j => ((Sep.drew H.out)).cell (g := gl) aP j), (fun j => ((Sep.drew H.out)).cell (g := gt) mem3 j), (Sep.drew H.out)⟩ (fun hHeld => ?_)
   refine puS (i := 0) (N := some 21) (v := ?_) (a' := ?_) rfl rfl (by kernel_rfl) (fun _ _ _ h => h) (Or.inl ⟨by rfl, ?_⟩) ?_ ?_
   rotate_left
   ·intro w'
    go_simp
    with_reducible rfl
   rotate_left
   ·simp only [Act.put, zA, zZ, zS, aI, aJ]
    rfl
   refine puS (i := 1) (N := some 22) (v := ?_) (a' := ?_) rfl rfl (by kernel_rfl) (fun _ _ _ h => h) (Or.inl ⟨by rfl, ?_⟩) ?_ ?_
   rotate_left
   ·intro w'
    go_simp
    with_reducible rfl
   rotate_left
   ·simp only [Act.put, zA, zZ, zS, aI, aJ]
    rfl
   refine puS (i := 2) (N := some 23) (v := ?_) (a' := ?_) rfl rfl (by kernel_rfl) (fun _ _ _ h => h) (Or.inl ⟨by rfl, ?_⟩) ?_ ?_
   rotate_left
   ·intro w'
    go_simp
    with_reducible rfl
   rotate_left
   ·simp only [Act.put, zA, zZ, zS, aI, aJ]
    rfl
   refine puS (i := 3) (N := some 24) (v := ?_) (a' := ?_) rfl rfl (by kernel_rfl) (fun _ _ _ h => h) (Or.inl ⟨by rfl, ?_⟩) ?_ ?_
   rotate_left
   ·intro w'
    go_simp
    with_reducible rfl
   rotate_left
   ·simp only [Act.put, zA, zZ, zS, aI, aJ]
    rfl
   refine puS (i := 4) (N := some 25) (v := ?_) (a' := ?_) rfl rfl (by kernel_rfl) (fun _ _ _ h => h) (Or.inl ⟨by rfl, ?_⟩) ?_ ?_
   rotate_left
   ·intro w'
    go_simp
    with_reducible rfl
   rotate_left
   ·simp only [Act.put, zA, zZ, zS, aI, aJ]
    rfl
   refine tkS (i := 5) (N := some 26) (v := ?_) (a' := ?_) rfl rfl (by kernel_rfl) (fun _ _ _ h => h) (Or.inl ⟨by rfl, ?_⟩) hHeld ?_ ?_
   rotate_left
   ·rintro w' ⟨s0, s1, s2⟩
    go_simp
    with_reducible rfl
   rotate_left
   ·simp only [Act.put, zA, zZ, zS, aI, aJ]
    rfl
   refine tkS (i := 6) (N := some 27) (v := ?_) (a' := ?_) rfl rfl (by kernel_rfl) (fun _ _ _ h => h) (Or.inl ⟨by rfl, ?_⟩) hHeld ?_ ?_
   rotate_left
   ·rintro w' ⟨s0, s1, s2⟩
    go_simp
    with_reducible rfl
   rotate_left
   ·simp only [Act.put, zA, zZ, zS, aI, aJ]
    rfl
   refine puS (i := 7) (N := some 28) (v := ?_) (a' := ?_) rfl rfl (by kernel_rfl) (fun _ _ _ h => h) (Or.inl ⟨by rfl, ?_⟩) ?_ ?_
   rotate_left
   ·intro w'
    go_simp
    with_reducible rfl
   rotate_left
   ·simp only [Act.put, zA, zZ, zS, aI, aJ]
    rfl
   refine onS (i := 8) (N := some 29) rfl rfl (by kernel_rfl) (by decide) (fun K hK => ?_)
   refine oC Tryz.func31 (by kernel_rfl) rfl #[.agg #[.slice A Q.L.l.length c, .bool Q.L.dn, .int .i64 Q.L.fu, .int .i64 Q.L.fa, .int .i64 Q.L.size, .int .u64 Q.L.fr, .int .u64 Q.L.nx, .bool Q.L.br], .string (P80 ++ data)] (by rfl) rfl rfl (by simp only [List.map_toArray, List.map_cons, List.map_nil]; rfl) ?_
   with_reducible refine (HAP.out A c _ (Sep.reads hHeld.2.2 mem1).2.2 (Sep.reads hHeld.2.2 mem1).2.1 (HG.out.below (Sep.below hHeld.2.2))).mono ?_
   rintro e w5 ⟨A5, c5, rfl, HJ⟩
   try simp only [lgc]
   have HN := fM hHeld.2.2 HJ.out
   refine ⟨_, rfl, ?_⟩
   refine hK.out _ _ ⟨(fun j => (HN).cell (g := gl) mem1 j), (fun j => (HN).cell (g := gt) bT j), (HN).eG⟩ (fun hHeld => ?_)
   clear hK K
   refine fE (a' := ?_) ?_ ?_
   rotate_left
   ·show Act.put _ (some 29) _ = _
    simp only [Act.put, zA, zZ, zS, aI, aJ]
    rfl
   refine puS (i := 9) (N := some 30) (v := ?_) (a' := ?_) rfl rfl (by kernel_rfl) (fun _ _ _ h => h) (Or.inl ⟨by rfl, ?_⟩) ?_ ?_
   rotate_left
   ·intro w'
    go_simp
    with_reducible rfl
   rotate_left
   ·simp only [Act.put, zA, zZ, zS, aI, aJ]
    rfl
   refine puS (i := 10) (N := some 31) (v := ?_) (a' := ?_) rfl rfl (by kernel_rfl) (fun _ _ _ h => h) (Or.inl ⟨by rfl, ?_⟩) ?_ ?_
   rotate_left
   ·intro w'
    go_simp
    with_reducible rfl
   rotate_left
   ·simp only [Act.put, zA, zZ, zS, aI, aJ]
    rfl
   refine laS (i := 11) (N := some 32) rfl rfl (by kernel_rfl) (by decide) (fun K hK => ?_)
   refine sD Tryz.func55 (by kernel_rfl) rfl #[.pointer (some ⟨gl, 0, none⟩), .agg #[.slice A5 L1.l.length c5, .bool L1.dn, .int .i64 L1.fu, .int .i64 L1.fa, .int .i64 L1.size, .int .u64 L1.fr, .int .u64 L1.nx, .bool L1.br], .int .i64 e1] (by rfl) rfl rfl (by simp only [List.map_toArray, List.map_cons, List.map_nil]; rfl) ?_
   refine (log_any gl A c B d Q A5 c5 L1 e1 (rs := lV A5 c5 L1.l :: row k67 67 (.slice A (Q.L.l).length c) Q.L.l :: row k41 41 (.slice B (Q.es).length d) Q.es :: box gt [.string data] 9 :: box gs [.int .u64 seq] 28 :: ts) ⟨HN.iW⟩).mono ?_
   rintro e w6 ⟨hE, H4⟩
   rcases hE with ⟨hz, rfl⟩ | ⟨hnz, rfl⟩
   rotate_left
   ·refine .inr ⟨_, rfl, ?_⟩
    have hV : R = (⟨L1, Q.es, Q.most⟩, e1) := by rw [HR.out, F8, if_pos HM.out, if_pos HD.out, HL1.out, if_neg hnz]
    show _ ∧ _
    rw [hV]
    exact ⟨rfl, .inr ⟨hnz, rfl⟩, A5, c5, B, d, ⟨H4.out.drop2⟩⟩
   refine .inl ⟨_, rfl, ?_⟩
   refine hK.out _ _ ?_
   clear hK K
   refine fE (a' := ?_) ?_ ?_
   rotate_left
   ·show Act.put _ (some 32) _ = _
    simp only [Act.put, zA, zZ, zS, aI, aJ]
    rfl
   refine iT (by kernel_rfl) ?_
   have n_ : aC (Sep b w6 (box gl [.slice A5 L1.l.length c5, .bool L1.dn, .int .i64 L1.fu, .int .i64 L1.fa, .int .i64 L1.size, .int .u64 L1.fr, .int .u64 L1.nx, .bool L1.br, .slice B Q.es.length d, .int .i64 Q.most] 101 :: row k67 67 (.slice A5 (L1.l).length c5) L1.l :: row k41 41 (.slice B (Q.es).length d) Q.es :: box gt [.string data] 9 :: box gs [.int .u64 seq] 28 :: ts)) := ⟨H4.out.drop2⟩
   clear H4 HN HJ hHeld
   clear H c_l c_t c_s
   have H := n_
   clear n_
   have c_l := H.out.cell (g := gl) aP
   have c_t := H.out.cell (g := gt) mem3
   have c_s := H.out.cell (g := gs) bT
   go_upto_region 3 with fail
   have hS3 := Sep.drew H.out
   refine fO (n := 15) (S := fun w' => (∀ j : Nat, w'.cell? ⟨gl, j, none⟩ = [.slice A5 L1.l.length c5, .bool L1.dn, .int .i64 L1.fu, .int .i64 L1.fa, .int .i64 L1.size, .int .u64 L1.fr, .int .u64 L1.nx, .bool L1.br, .slice B Q.es.length d, .int .i64 Q.most][j]?) ∧ (∀ j : Nat, w'.cell? ⟨gt, j, none⟩ = [.string data][j]?) ∧ (∀ j : Nat, w'.cell? ⟨gs, j, none⟩ = [.int .u64 seq][j]?) ∧ (∀ j : Nat, w'.frozen? ⟨gl, j, none⟩ = false)) (ds := [14]) #[false, false, false, false, false, false, false, false, false, false, false, false, false, false, false] (by kernel_rfl) rfl rfl ⟨(fun j => ((Sep.drew H.out)).cell (g := gl) aP j), (fun j => ((Sep.drew H.out)).cell (g := gt) mem3 j), (fun j => ((Sep.drew H.out)).cell (g := gs) bT j), (fun j => ((Sep.drew H.out)).frozen (g := gl) aP j)⟩ (fun hHeld => ?_)
   refine puS (i := 0) (N := some 33) (v := ?_) (a' := ?_) rfl rfl (by kernel_rfl) (fun _ _ _ h => h) (Or.inl ⟨by rfl, ?_⟩) ?_ ?_
   rotate_left
   ·intro w'
    go_simp
    with_reducible rfl
   rotate_left
   ·simp only [Act.put, zA, zZ, zS, aI, aJ]
    rfl
   refine puS (i := 1) (N := some 34) (v := ?_) (a' := ?_) rfl rfl (by kernel_rfl) (fun _ _ _ h => h) (Or.inl ⟨by rfl, ?_⟩) ?_ ?_
   rotate_left
   ·intro w'
    go_simp
    with_reducible rfl
   rotate_left
   ·simp only [Act.put, zA, zZ, zS, aI, aJ]
    rfl
   refine puS (i := 2) (N := some 35) (v := ?_) (a' := ?_) rfl rfl (by kernel_rfl) (fun _ _ _ h => h) (Or.inl ⟨by rfl, ?_⟩) ?_ ?_
   rotate_left
   ·intro w'
    go_simp
    with_reducible rfl
   rotate_left
   ·simp only [Act.put, zA, zZ, zS, aI, aJ]
    rfl
   refine puS (i := 3) (N := some 36) (v := ?_) (a' := ?_) rfl rfl (by kernel_rfl) (fun _ _ _ h => h) (Or.inl ⟨by rfl, ?_⟩) ?_ ?_
   rotate_left
   ·intro w'
    go_simp
    with_reducible rfl
   rotate_left
   ·simp only [Act.put, zA, zZ, zS, aI, aJ]
    rfl
   refine puS (i := 4) (N := some 37) (v := ?_) (a' := ?_) rfl rfl (by kernel_rfl) (fun _ _ _ h => h) (Or.inl ⟨by rfl, ?_⟩) ?_ ?_
   rotate_left
   ·intro w'
    go_simp
    with_reducible rfl
   rotate_left
   ·simp only [Act.put, zA, zZ, zS, aI, aJ]
    rfl
   refine tkS (i := 5) (N := some 38) (v := ?_) (a' := ?_) rfl rfl (by kernel_rfl) (fun _ _ _ h => h) (Or.inl ⟨by rfl, ?_⟩) hHeld ?_ ?_
   rotate_left
   ·rintro w' ⟨s0, s1, s2, s3⟩
    go_simp
    with_reducible rfl
   rotate_left
   ·simp only [Act.put, zA, zZ, zS, aI, aJ]
    rfl
   refine tkS (i := 6) (N := some 39) (v := ?_) (a' := ?_) rfl rfl (by kernel_rfl) (fun _ _ _ h => h) (Or.inl ⟨by rfl, ?_⟩) hHeld ?_ ?_
   rotate_left
   ·rintro w' ⟨s0, s1, s2, s3⟩
    go_simp
    with_reducible rfl
   rotate_left
   ·simp only [Act.put, zA, zZ, zS, aI, aJ]
    rfl
   refine tkS (i := 7) (N := some 40) (v := ?_) (a' := ?_) rfl rfl (by kernel_rfl) (fun _ _ _ h => h) (Or.inl ⟨by rfl, ?_⟩) hHeld ?_ ?_
   rotate_left
   ·rintro w' ⟨s0, s1, s2, s3⟩
    go_simp
    with_reducible rfl
   rotate_left
   ·simp only [Act.put, zA, zZ, zS, aI, aJ]
    rfl
   refine puS (i := 8) (N := some 41) (v := ?_) (a' := ?_) rfl rfl (by kernel_rfl) (fun _ _ _ h => h) (Or.inl ⟨by rfl, ?_⟩) ?_ ?_
   rotate_left
   ·intro w'
    go_simp
    with_reducible rfl
   rotate_left
   ·simp only [Act.put, zA, zZ, zS, aI, aJ]
    rfl
   refine onS (i := 9) (N := some 42) rfl rfl (by kernel_rfl) (by decide) (fun K hK => ?_)
   refine RH (N := some 42) (by rfl) rfl hS3 [.int .u64 seq, .string data, .bool false] 41 1 ?_ ?_
   ·first | (go_simp; done) | (go_simp; rfl)
   intro g9 w9 hS9
   refine hK.out _ _ ⟨(fun j => (hS9).cell (g := gl) mem1 j), (fun j => (hS9).cell (g := gt) bT j), (fun j => (hS9).cell (g := gs) dM j), (fun j => (hS9).frozen (g := gl) mem1 j)⟩ (fun hHeld => ?_)
   clear hK K
   refine fE (a' := ?_) ?_ ?_
   rotate_left
   ·show Act.put _ (some 42) _ = _
    simp only [Act.put, zA, zZ, zS, aI, aJ]
    rfl
   refine onS (i := 10) (N := some 43) rfl rfl (by kernel_rfl) (by decide) (fun K hK => ?_)
   refine yR k41 xE (by rfl) (.tmp 38) (.tmp 42) 31 41 (.agg #[.int .u64 0, .string ⟨#[]⟩, .bool false]) 32 rfl Tryz.underlying31 MR rfl (by decide) (by decide) (.slice B Q.es.length d) Q.es [(⟨seq, data, false⟩ : S41)] (some ⟨g9, 0, none⟩) 1 (by first | rfl | (go_simp; done) | (go_simp; rfl)) (by first | rfl | (go_simp; done) | (go_simp; rfl)) (YE (fun j => hS9.cell (g := g9) aP j)) (fun x cs h => by obtain rfl := CO h; exact GU _ _ _ _) hS9.oZ (by have := HEL.out; simp only [List.length_singleton]; omega) ?_
   intro A10 c10 w10 JY
   obtain ⟨es2, hes2⟩ : ∃ es2, es2 = Q.es ++ [(⟨seq, data, false⟩ : S41)] := ⟨_, rfl⟩
   rw [← hes2] at JY ⊢
   have qhC := aC.mk hes2
   clear hes2
   refine hK.out _ _ ⟨(fun j => JY.cell (g := gl) mem2 j), (fun j => JY.cell (g := gt) bT j), (fun j => JY.cell (g := gs) dM j), (fun j => JY.frozen (g := gl) mem2 j)⟩ (fun hHeld => ?_)
   clear hK K
   refine fE (a' := ?_) ?_ ?_
   rotate_left
   ·show Act.put _ (some 43) _ = _
    simp only [Act.put, zA, zZ, zS, aI, aJ]
    rfl
   refine puS (i := 11) (N := some 44) (v := ?_) (a' := ?_) rfl rfl (by kernel_rfl) (fun _ _ _ h => h) (Or.inl ⟨by rfl, ?_⟩) ?_ ?_
   rotate_left
   ·intro w'
    go_simp
    with_reducible rfl
   rotate_left
   ·simp only [Act.put, zA, zZ, zS, aI, aJ]
    rfl
   refine puS (i := 12) (N := some 45) (v := ?_) (a' := ?_) rfl rfl (by kernel_rfl) (fun _ _ _ h => h) (Or.inl ⟨by rfl, ?_⟩) ?_ ?_
   rotate_left
   ·intro w'
    go_simp
    with_reducible rfl
   rotate_left
   ·simp only [Act.put, zA, zZ, zS, aI, aJ]
    rfl
   refine puS (i := 13) (N := some 46) (v := ?_) (a' := ?_) rfl rfl (by kernel_rfl) (fun _ _ _ h => h) (Or.inl ⟨by rfl, ?_⟩) ?_ ?_
   rotate_left
   ·intro w'
    go_simp
    with_reducible rfl
   rotate_left
   ·simp only [Act.put, zA, zZ, zS, aI, aJ]
    rfl
   refine laS (i := 14) (N := none) rfl rfl (by kernel_rfl) (by decide) (fun K hK => ?_)
   refine wG (w1 := ?_) (by rfl) rfl ?_ ?_
   rotate_left
   ·go_simp
    rfl
   refine hK.out _ _ ?_
   clear hK K
   refine iT (by kernel_rfl) ?_
   refine qI (rs := (row k41 41 (.slice A10 (es2).length c10) es2 :: box g9 [.int .u64 seq, .string data, .bool false] 41 :: box gl [.slice A5 L1.l.length c5, .bool L1.dn, .int .i64 L1.fu, .int .i64 L1.fa, .int .i64 L1.size, .int .u64 L1.fr, .int .u64 L1.nx, .bool L1.br, .slice A10 es2.length c10, .int .i64 Q.most] 101 :: row k67 67 (.slice A5 (L1.l).length c5) L1.l :: box gt [.string data] 9 :: box gs [.int .u64 seq] 28 :: ts)) (Sep.set2 JY 8 (.slice A10 es2.length c10) rfl) ?_
   clear JY hS9 hS3
   intro wd2 n_
   clear H c_l c_t c_s
   have H := n_
   clear n_
   have c_9 := H.out.cell (g := g9) mem1
   have c_l := H.out.cell (g := gl) mem2
   have c_t := H.out.cell (g := gt) bT
   have c_s := H.out.cell (g := gs) dM
   go_end0
   have hV : R = (⟨L1, es2, Q.most⟩, 0) := by rw [HR.out, F8, if_pos HM.out, if_pos HD.out, HL1.out, if_pos hz, qhC.out]
   rw [hV]
   exact ⟨.inl ⟨rfl, rfl⟩, A5, c5, A10, c10, ⟨(Sep.iR (Sep.iR (Sep.iY (Sep.iR (Sep.iR (Sep.drop1 H.out))))))⟩⟩
  ·
   have q1 : decide ((data.size : Int) < 65536) = false := decide_eq_false (by omega)
   go_wp2_with fail
   try simp only [q1]
   refine (uM 4 _).mono ?_
   rintro e w_ ⟨rfl, rfl⟩
   try go_wp2_with fail
   have hV : R = (Q, 4) := by rw [HR.out, F8, if_pos HM.out, if_neg hd]
   show _ ∧ _
   rw [hV]
   exact ⟨rfl, .inr ⟨show (4 : Int) ≠ 0 by decide, rfl⟩, A, c, B, d, H⟩
 ·
  have q1 := decide_eq_false hm
  go_upto_region 0 with fail
  refine fO (n := 13) (S := fun w' => (∀ j : Nat, w'.cell? ⟨gl, j, none⟩ = [.slice A Q.L.l.length c, .bool Q.L.dn, .int .i64 Q.L.fu, .int .i64 Q.L.fa, .int .i64 Q.L.size, .int .u64 Q.L.fr, .int .u64 Q.L.nx, .bool Q.L.br, .slice B Q.es.length d, .int .i64 Q.most][j]?) ∧ Sp.Sep b w' (box gl [.slice A Q.L.l.length c, .bool Q.L.dn, .int .i64 Q.L.fu, .int .i64 Q.L.fa, .int .i64 Q.L.size, .int .u64 Q.L.fr, .int .u64 Q.L.nx, .bool Q.L.br, .slice B Q.es.length d, .int .i64 Q.most] 101 :: row k67 67 (.slice A (Q.L.l).length c) Q.L.l :: row k41 41 (.slice B (Q.es).length d) Q.es :: box gt [.string data] 9 :: box gs [.int .u64 seq] 28 :: ts)) (ds := [12]) #[false, false, false, false, false, false, false, false, false, false, false, false, false] (by kernel_rfl) rfl rfl ⟨(fun j => ((Sep.drew H.out)).cell (g := gl) aP j), (Sep.drew H.out)⟩ (fun hHeld => ?_)
  refine puS (i := 0) (N := some 4) (v := ?_) (a' := ?_) rfl rfl (by kernel_rfl) (fun _ _ _ h => h) (Or.inl ⟨by rfl, ?_⟩) ?_ ?_
  rotate_left
  ·intro w'
   go_simp
   with_reducible rfl
  rotate_left
  ·simp only [Act.put, zA, zZ, zS, aI, aJ]
   rfl
  refine puS (i := 1) (N := some 5) (v := ?_) (a' := ?_) rfl rfl (by kernel_rfl) (fun _ _ _ h => h) (Or.inl ⟨by rfl, ?_⟩) ?_ ?_
  rotate_left
  ·intro w'
   go_simp
   with_reducible rfl
  rotate_left
  ·simp only [Act.put, zA, zZ, zS, aI, aJ]
   rfl
  refine puS (i := 2) (N := some 6) (v := ?_) (a' := ?_) rfl rfl (by kernel_rfl) (fun _ _ _ h => h) (Or.inl ⟨by rfl, ?_⟩) ?_ ?_
  rotate_left
  ·intro w'
   go_simp
   with_reducible rfl
  rotate_left
  ·simp only [Act.put, zA, zZ, zS, aI, aJ]
   rfl
  refine puS (i := 3) (N := some 7) (v := ?_) (a' := ?_) rfl rfl (by kernel_rfl) (fun _ _ _ h => h) (Or.inl ⟨by rfl, ?_⟩) ?_ ?_
  rotate_left
  ·intro w'
   go_simp
   with_reducible rfl
  rotate_left
  ·simp only [Act.put, zA, zZ, zS, aI, aJ]
   rfl
  refine puS (i := 6) (N := some 10) (v := ?_) (a' := ?_) rfl rfl (by kernel_rfl) (fun _ _ _ h => h) (Or.inl ⟨by rfl, ?_⟩) ?_ ?_
  rotate_left
  ·intro w'
   go_simp
   with_reducible rfl
  rotate_left
  ·simp only [Act.put, zA, zZ, zS, aI, aJ]
   rfl
  refine puS (i := 7) (N := some 11) (v := ?_) (a' := ?_) rfl rfl (by kernel_rfl) (fun _ _ _ h => h) (Or.inl ⟨by rfl, ?_⟩) ?_ ?_
  rotate_left
  ·intro w'
   go_simp
   with_reducible rfl
  rotate_left
  ·simp only [Act.put, zA, zZ, zS, aI, aJ]
   rfl
  refine puS (i := 8) (N := some 12) (v := ?_) (a' := ?_) rfl rfl (by kernel_rfl) (fun _ _ _ h => h) (Or.inl ⟨by rfl, ?_⟩) ?_ ?_
  rotate_left
  ·intro w'
   go_simp
   with_reducible rfl
  rotate_left
  ·simp only [Act.put, zA, zZ, zS, aI, aJ]
   rfl
  refine puS (i := 9) (N := some 13) (v := ?_) (a' := ?_) rfl rfl (by kernel_rfl) (fun _ _ _ h => h) (Or.inl ⟨by rfl, ?_⟩) ?_ ?_
  rotate_left
  ·intro w'
   go_simp
   with_reducible rfl
  rotate_left
  ·simp only [Act.put, zA, zZ, zS, aI, aJ]
   rfl
  refine tkS (i := 4) (N := some 8) (v := ?_) (a' := ?_) rfl rfl (by kernel_rfl) (fun _ _ _ h => h) (Or.inl ⟨by rfl, ?_⟩) hHeld ?_ ?_
  rotate_left
  ·rintro w' ⟨s0, s1⟩
   go_simp
   with_reducible rfl
  rotate_left
  ·simp only [Act.put, zA, zZ, zS, aI, aJ]
   rfl
  refine puS (i := 5) (N := some 9) (v := ?_) (a' := ?_) rfl rfl (by kernel_rfl) (fun _ _ _ h => h) (Or.inl ⟨by rfl, ?_⟩) ?_ ?_
  rotate_left
  ·intro w'
   go_simp
   with_reducible rfl
  rotate_left
  ·simp only [Act.put, zA, zZ, zS, aI, aJ]
   rfl
  refine tkS (i := 10) (N := some 14) (v := ?_) (a' := ?_) rfl rfl (by kernel_rfl) (fun _ _ _ h => h) (Or.inl ⟨by rfl, ?_⟩) hHeld ?_ ?_
  rotate_left
  ·rintro w' ⟨s0, s1⟩
   go_simp
   with_reducible rfl
  rotate_left
  ·simp only [Act.put, zA, zZ, zS, aI, aJ]
   rfl
  refine puS (i := 11) (N := some 15) (v := ?_) (a' := ?_) rfl rfl (by kernel_rfl) (fun _ _ _ h => h) (Or.inl ⟨by rfl, ?_⟩) ?_ ?_
  rotate_left
  ·intro w'
   go_simp
   with_reducible rfl
  rotate_left
  ·simp only [Act.put, zA, zZ, zS, aI, aJ]
   rfl
  refine laS (i := 12) (N := some 16) rfl rfl (by kernel_rfl) (by decide) (fun K hK => ?_)
  refine sD Tryz.func54 (by kernel_rfl) rfl #[.bool false, .int .i64 8] (by rfl) rfl rfl (by simp only [List.map_toArray, List.map_cons, List.map_nil]; rfl) ?_
  refine (uM 8 _).mono ?_
  rintro e w5 ⟨rfl, rfl⟩
  refine .inr ⟨_, rfl, ?_⟩
  have hV : R = (Q, 8) := by rw [HR.out, F8, if_neg hm]
  show _ ∧ _
  rw [hV]
  exact ⟨rfl, .inr ⟨show (8 : Int) ≠ 0 by decide, rfl⟩, A, c, B, d, ⟨hHeld.2⟩⟩
end Go.Proofs.U
namespace Go.Proofs.U
open Go.Proofs.UE (kU rQ)
open Go.Proofs
open Go.RowKit Go.Proofs.aA.aK Go.Proofs.aA.aW Go.Proofs.aA.aX Go.Proofs.Sp Go.Proofs.gB
theorem oW {b w : World} {rs : List Res} {B : Option Addr} {d : Nat} {es : List S41} (H : Sep b w rs) (hm : rG B d es ∈ rs) (hne : 0 < es.length) : ∃ gp, B = some ⟨gp, 0, none⟩ := by
 obtain ⟨g, cur, h, _⟩ := UE.lT (H.qay hm) hne
 exact ⟨g, h⟩
theorem oI {b w : World} {rs : List Res} {gp d i : Nat} {es : List S41} {x : S41} (H : Sep b w rs) (hm : rG (some ⟨gp, 0, none⟩) d es ∈ rs) (hx : es[i]? = some x) :
  w.cell? ⟨gp, i * 3, none⟩ = some (.int .u64 x.f0) ∧ w.cell? ⟨gp, i * 3 + 1, none⟩ = some (.string x.f1) ∧ w.cell? ⟨gp, i * 3 + 2, none⟩ = some (.bool x.f2) ∧ ∀ j, w.frozen? ⟨gp, j, none⟩ = false := by
 have hi := (List.getElem?_eq_some_iff.1 hx).1
 obtain ⟨g, cur, h, -, -, hh, -, -, -, h6⟩ := UE.lT (H.qay hm) (by omega)
 injection h with h
 injection h with h
 subst h
 obtain ⟨q0, q1, q2⟩ := UE.jD _ i x hx
 exact ⟨UE.kG hh h6 q0, UE.kG hh h6 q1, UE.kG hh h6 q2, fun j => aG hh j⟩
set_option maxHeartbeats 8000000 in
theorem qbm (b : World) (Q : Qu) (gx : Nat) (hel : Q.es.length ≤ 1024) : yS b 56 [.pointer (some ⟨gx, 0, none⟩)] Q [box gx [.int .u64 0, .string ⟨#[]⟩, .bool false] 41] [box gx [.int .u64 (vS Q).f0, .string (vS Q).f1, .bool (vS Q).f2] 41] (sG Q).1 (sG Q).2 := by
 intro gl A c B d w ts H0
 obtain ⟨R, hR⟩ : ∃ R, R = sG Q := ⟨_, rfl⟩
 obtain ⟨X, hX⟩ : ∃ X, X = vS Q := ⟨_, rfl⟩
 rw [← hR, ← hX]
 have HR := aC.mk hR
 have HXE := aC.mk hX
 clear hR hX
 have H : aC (Sep b w (box gl [.slice A Q.L.l.length c, .bool Q.L.dn, .int .i64 Q.L.fu, .int .i64 Q.L.fa, .int .i64 Q.L.size, .int .u64 Q.L.fr, .int .u64 Q.L.nx, .bool Q.L.br, .slice B Q.es.length d, .int .i64 Q.most] 101 :: row k67 67 (.slice A (Q.L.l).length c) Q.L.l :: row k41 41 (.slice B (Q.es).length d) Q.es :: box gx [.int .u64 0, .string ⟨#[]⟩, .bool false] 41 :: ts)) := H0
 clear H0
 have c_l := H.out.cell (g := gl) aP
 have c_x := H.out.cell (g := gx) mem3
 go_enter Tryz.func56, Tryz.ntmps56
 go_wp2_with fail
 refine ((LQ free 58 [] B d Q.es _ (H.out.reads mem2).2.2 (fun args w => by simp [go_sem]) (fun x w' hb => qdN x w')).mono ?_)
 rintro e wd1 ⟨rfl, hb_⟩
 have n_ : aC (Sep b wd1 (box gl [.slice A Q.L.l.length c, .bool Q.L.dn, .int .i64 Q.L.fu, .int .i64 Q.L.fa, .int .i64 Q.L.size, .int .u64 Q.L.fr, .int .u64 Q.L.nx, .bool Q.L.br, .slice B Q.es.length d, .int .i64 Q.most] 101 :: row k67 67 (.slice A (Q.L.l).length c) Q.L.l :: row k41 41 (.slice B (Q.es).length d) Q.es :: box gx [.int .u64 0, .string ⟨#[]⟩, .bool false] 41 :: ts)) := ⟨H.out.step hb_⟩
 clear H c_l c_x
 have H := n_
 clear n_
 have c_l := H.out.cell (g := gl) aP
 have c_x := H.out.cell (g := gx) mem3
 clear hb_
 cases hix : sK free Q.es with
 | none =>
  have hi : EH free Q.es = -1 := by rw [EH, hix]
  rw [hi]
  go_wp2_with fail
  refine (uM 7 _).mono ?_
  rintro e w_ ⟨rfl, rfl⟩
  try go_wp2_with fail
  have hV : R = (Q, 7) := by rw [HR.out, sG, hix]
  have hE : X = z41 := by rw [HXE.out, vS, hix]
  show _ ∧ _
  rw [hV, hE]
  exact ⟨rfl, .inr ⟨show (7 : Int) ≠ 0 by decide, rfl⟩, A, c, B, d, H⟩
 | some i =>
  have hi : EH free Q.es = (i : Int) := by rw [EH, hix]
  rw [hi]
  have hil := OZ hix
  obtain ⟨x, hx⟩ : ∃ x, Q.es[i]? = some x := ⟨_, List.getElem?_eq_getElem hil⟩
  have hV : R = (⟨Q.L, Q.es.set i ⟨x.f0, x.f1, true⟩, Q.most⟩, 0) := by rw [HR.out, sG, hix]; simp only [GZ, hx]
  have hE : X = ⟨x.f0, x.f1, true⟩ := by rw [HXE.out, vS, hix]; simp only [hx]
  obtain ⟨es2, hes2⟩ : ∃ es2, es2 = Q.es.set i ⟨x.f0, x.f1, true⟩ := ⟨_, rfl⟩
  have HE2 := aC.mk hes2
  have HX2 : aC (es2[i]? = some ⟨x.f0, x.f1, true⟩) := ⟨by rw [hes2, List.getElem?_set_self hil]⟩
  have HL2 : aC (es2.length = Q.es.length) := ⟨by rw [hes2, List.length_set]⟩
  rw [← hes2] at hV
  have HV := aC.mk hV
  have HE := aC.mk hE
  have HX1 : aC ((UE.cellsOf Q.es).set (i * 3 + 2) (.bool true) = UE.cellsOf es2) := ⟨by rw [hes2]; exact UE.jS Q.es i x true hx⟩
  have HX := aC.mk hx
  obtain ⟨gp, hgp⟩ := oW (B := B) (d := d) (es := Q.es) H.out mem2 (by omega)
  subst hgp
  have hi0 : (0 : Int) ≤ (i : Int) := by omega
  have hi1 : (i : Int) < (Q.es.length : Int) := by omega
  clear hi hV hE hes2 hx hix hil
  go_wp2_with fail
  refine (rP 7 _).mono ?_
  rintro e w_ ⟨rfl, rfl⟩
  obtain ⟨k0, k1, k2, kf⟩ := oI (gp := gp) (d := d) H.out mem2 HX.out
  have kf2 := kf (i * 3 + 2)
  clear kf
  go_wp2_with (first
 |((with_reducible refine aV (t := 4) (p := 20) rfl ?_);
   refine bH (rs1 := (box gl [.slice A Q.L.l.length c, .bool Q.L.dn, .int .i64 Q.L.fu, .int .i64 Q.L.fa, .int .i64 Q.L.size, .int .u64 Q.L.fr, .int .u64 Q.L.nx, .bool Q.L.br, .slice (some ⟨gp, 0, none⟩) Q.es.length d, .int .i64 Q.most] 101 :: row k67 67 (.slice A (Q.L.l).length c) Q.L.l :: row k41 41 (.slice (some ⟨gp, 0, none⟩) Q.es.length d) es2 :: box gx [.int .u64 0, .string ⟨#[]⟩, .bool false] 41 :: ts)) rfl (t := 4) (p := 20) rfl rfl ?hr (H1 := (kU (pre := [box gl [.slice A Q.L.l.length c, .bool Q.L.dn, .int .i64 Q.L.fu, .int .i64 Q.L.fa, .int .i64 Q.L.size, .int .u64 Q.L.fr, .int .u64 Q.L.nx, .bool Q.L.br, .slice (some ⟨gp, 0, none⟩) Q.es.length d, .int .i64 Q.most] 101, row k67 67 (.slice A (Q.L.l).length c) Q.L.l]) (l' := es2) (j := i * 3 + 2) (u := .bool true) rfl H.out HL2.out HX1.out (by have := (List.getElem?_eq_some_iff.1 HX.out).1; omega))) ?_;
   (case hr => first | (go_simp; done) | (go_simp; rfl));
   intro wd2 n_;
   clear k0 k1 k2 kf2;
   clear H c_l c_x;
   have H := n_;
   clear n_;
   have c_l := H.out.cell (g := gl) aP;
   have c_x := H.out.cell (g := gx) mem3;
   obtain ⟨m0, m1, m2, mf⟩ := oI (gp := gp) (d := d) (es := es2) (by have h := H.out; rwa [← HL2.out] at h) mem2 HX2.out;
   clear mf;
   have z_x := H.out.frozen (g := gx) mem3)
 |((with_reducible refine aV (t := 41) (p := 1) rfl ?_);
   refine bH (rs1 := (box gl [.slice A Q.L.l.length c, .bool Q.L.dn, .int .i64 Q.L.fu, .int .i64 Q.L.fa, .int .i64 Q.L.size, .int .u64 Q.L.fr, .int .u64 Q.L.nx, .bool Q.L.br, .slice (some ⟨gp, 0, none⟩) Q.es.length d, .int .i64 Q.most] 101 :: row k67 67 (.slice A (Q.L.l).length c) Q.L.l :: row k41 41 (.slice (some ⟨gp, 0, none⟩) Q.es.length d) es2 :: box gx [.int .u64 x.f0, .string x.f1, .bool true] 41 :: ts)) rfl (t := 41) (p := 1) rfl rfl ?hr (H1 := (Sep.dY (Sep.dY (Sep.dY H.out 0 (.int .u64 x.f0) rfl) 1 (.string x.f1) rfl) 2 (.bool true) rfl)) ?_;
   (case hr => first | (go_simp; done) | (go_simp; rfl));
   intro wd3 n_;
   clear H c_l c_x z_x;
   have H := n_;
   clear n_;
   have c_l := H.out.cell (g := gl) aP;
   have c_x := H.out.cell (g := gx) mem3;
   have z_x := H.out.frozen (g := gx) mem3;
   clear m0 m1 m2)
 |fail)
  go_end0
  have h9 := H.out
  rw [HV.out, HE.out]
  rw [← HL2.out] at h9
  exact ⟨.inl ⟨rfl, rfl⟩, A, c, some ⟨gp, 0, none⟩, d, ⟨h9⟩⟩
set_option maxHeartbeats 8000000 in
theorem UU (b : World) (Q : Qu) (gs : Nat) (q : Int) (hel : Q.es.length ≤ 1024) : yS b 85 [.pointer (some ⟨gs, 0, none⟩)] Q [box gs [.int .u64 q] 28] [box gs [.int .u64 q] 28] (pG Q q).1 (pG Q q).2 := by
 intro gl A c B d w ts H0
 obtain ⟨R, hR⟩ : ∃ R, R = pG Q q := ⟨_, rfl⟩
 rw [← hR]
 have HR := aC.mk hR
 clear hR
 have H : aC (Sep b w (box gl [.slice A Q.L.l.length c, .bool Q.L.dn, .int .i64 Q.L.fu, .int .i64 Q.L.fa, .int .i64 Q.L.size, .int .u64 Q.L.fr, .int .u64 Q.L.nx, .bool Q.L.br, .slice B Q.es.length d, .int .i64 Q.most] 101 :: row k67 67 (.slice A (Q.L.l).length c) Q.L.l :: row k41 41 (.slice B (Q.es).length d) Q.es :: box gs [.int .u64 q] 28 :: ts)) := H0
 clear H0
 have c_l := H.out.cell (g := gl) aP
 have c_s := H.out.cell (g := gs) mem3
 go_enter Tryz.func85, Tryz.ntmps85
 cases hix : sK (lM q) Q.es with
 | none =>
  have HIX := aC.mk hix
  clear hix
  go_upto_region 0 with fail
  refine fO (n := 11) (S := fun w' => (∀ j : Nat, w'.cell? ⟨gl, j, none⟩ = [.slice A Q.L.l.length c, .bool Q.L.dn, .int .i64 Q.L.fu, .int .i64 Q.L.fa, .int .i64 Q.L.size, .int .u64 Q.L.fr, .int .u64 Q.L.nx, .bool Q.L.br, .slice B Q.es.length d, .int .i64 Q.most][j]?) ∧ (∀ j : Nat, w'.cell? ⟨gs, j, none⟩ = [.int .u64 q][j]?) ∧ Sp.Sep b w' (box gl [.slice A Q.L.l.length c, .bool Q.L.dn, .int .i64 Q.L.fu, .int .i64 Q.L.fa, .int .i64 Q.L.size, .int .u64 Q.L.fr, .int .u64 Q.L.nx, .bool Q.L.br, .slice B Q.es.length d, .int .i64 Q.most] 101 :: row k67 67 (.slice A (Q.L.l).length c) Q.L.l :: row k41 41 (.slice B (Q.es).length d) Q.es :: box gs [.int .u64 q] 28 :: ts)) (ds := [10]) #[false, false, false, false, false, false, false, false, false, false, false] (by kernel_rfl) rfl rfl ⟨(fun j => ((Sep.drew H.out)).cell (g := gl) aP j), (fun j => ((Sep.drew H.out)).cell (g := gs) mem3 j), (Sep.drew H.out)⟩ (fun hHeld => ?_)
  refine puS (i := 0) (N := some 3) (v := ?_) (a' := ?_) rfl rfl (by kernel_rfl) (fun _ _ _ h => h) (Or.inl ⟨by rfl, ?_⟩) ?_ ?_
  rotate_left
  ·intro w'
   go_simp
   with_reducible rfl
  rotate_left
  ·simp only [Act.put, zA, zZ, zS, aI, aJ]
   rfl
  refine puS (i := 1) (N := some 4) (v := ?_) (a' := ?_) rfl rfl (by kernel_rfl) (fun _ _ _ h => h) (Or.inl ⟨by rfl, ?_⟩) ?_ ?_
  rotate_left
  ·intro w'
   go_simp
   with_reducible rfl
  rotate_left
  ·simp only [Act.put, zA, zZ, zS, aI, aJ]
   rfl
  refine puS (i := 2) (N := some 5) (v := ?_) (a' := ?_) rfl rfl (by kernel_rfl) (fun _ _ _ h => h) (Or.inl ⟨by rfl, ?_⟩) ?_ ?_
  rotate_left
  ·intro w'
   go_simp
   with_reducible rfl
  rotate_left
  ·simp only [Act.put, zA, zZ, zS, aI, aJ]
   rfl
  refine puS (i := 3) (N := some 6) (v := ?_) (a' := ?_) rfl rfl (by kernel_rfl) (fun _ _ _ h => h) (Or.inl ⟨by rfl, ?_⟩) ?_ ?_
  rotate_left
  ·intro w'
   go_simp
   with_reducible rfl
  rotate_left
  ·simp only [Act.put, zA, zZ, zS, aI, aJ]
   rfl
  refine puS (i := 5) (N := some 8) (v := ?_) (a' := ?_) rfl rfl (by kernel_rfl) (fun _ _ _ h => h) (Or.inl ⟨by rfl, ?_⟩) ?_ ?_
  rotate_left
  ·intro w'
   go_simp
   with_reducible rfl
  rotate_left
  ·simp only [Act.put, zA, zZ, zS, aI, aJ]
   rfl
  refine tkS (i := 4) (N := some 7) (v := ?_) (a' := ?_) rfl rfl (by kernel_rfl) (fun _ _ _ h => h) (Or.inl ⟨by rfl, ?_⟩) hHeld ?_ ?_
  rotate_left
  ·rintro w' ⟨s0, s1, s2⟩
   go_simp
   with_reducible rfl
  rotate_left
  ·simp only [Act.put, zA, zZ, zS, aI, aJ]
   rfl
  refine tkS (i := 6) (N := some 9) (v := ?_) (a' := ?_) rfl rfl (by kernel_rfl) (fun _ _ _ h => h) (Or.inl ⟨by rfl, ?_⟩) hHeld ?_ ?_
  rotate_left
  ·rintro w' ⟨s0, s1, s2⟩
   go_simp
   with_reducible rfl
  rotate_left
  ·simp only [Act.put, zA, zZ, zS, aI, aJ]
   rfl
  refine onS (i := 7) (N := some 10) rfl rfl (by kernel_rfl) (by decide) (fun K hK => ?_)
  refine sD Tryz.func60 (by kernel_rfl) rfl #[.pointer (some ⟨gl, 0, none⟩), .int .u64 q] (by rfl) rfl rfl (by simp only [List.map_toArray, List.map_cons, List.map_nil]; rfl) ?_
  refine (AY gl A c B d Q q (rs := box gs [.int .u64 q] 28 :: ts) ⟨hHeld.2.2⟩).mono ?_
  rintro e w6 ⟨hE, H4⟩
  rw [HIX.out] at hE
  rcases hE with ⟨i2, hi2, _⟩ | ⟨_, rfl⟩
  ·cases hi2
  refine .inr ⟨_, rfl, ?_⟩
  have hV : R = (Q, 19) := by rw [HR.out, pG, HIX.out]
  show _ ∧ _
  rw [hV]
  exact ⟨rfl, .inr ⟨show (19 : Int) ≠ 0 by decide, rfl⟩, A, c, B, d, H4⟩
 | some i =>
  have HIX := aC.mk hix
  have hil := OZ hix
  obtain ⟨x, hx⟩ : ∃ x, Q.es[i]? = some x := ⟨_, List.getElem?_eq_getElem hil⟩
  have hV : R = (⟨Q.L, Q.es.set i ⟨x.f0, x.f1, false⟩, Q.most⟩, 0) := by rw [HR.out, pG, hix]; simp only [UR, hx]
  obtain ⟨es2, hes2⟩ : ∃ es2, es2 = Q.es.set i ⟨x.f0, x.f1, false⟩ := ⟨_, rfl⟩
  have HL2 : aC (es2.length = Q.es.length) := ⟨by rw [hes2, List.length_set]⟩
  rw [← hes2] at hV
  have HV := aC.mk hV
  have HX1 : aC ((UE.cellsOf Q.es).set (i * 3 + 2) (.bool false) = UE.cellsOf es2) := ⟨by rw [hes2]; exact UE.jS Q.es i x false hx⟩
  have HX := aC.mk hx
  obtain ⟨gp, hgp⟩ := oW (B := B) (d := d) (es := Q.es) H.out mem2 (by omega)
  subst hgp
  have hi0 : (0 : Int) ≤ (i : Int) := by omega
  have hi1 : (i : Int) < (Q.es.length : Int) := by omega
  clear hV hes2 hx hix hil
  go_upto_region 0 with fail
  refine fO (n := 11) (S := fun w' => (∀ j : Nat, w'.cell? ⟨gl, j, none⟩ = [.slice A Q.L.l.length c, .bool Q.L.dn, .int .i64 Q.L.fu, .int .i64 Q.L.fa, .int .i64 Q.L.size, .int .u64 Q.L.fr, .int .u64 Q.L.nx, .bool Q.L.br, .slice (some ⟨gp, 0, none⟩) Q.es.length d, .int .i64 Q.most][j]?) ∧ (∀ j : Nat, w'.cell? ⟨gs, j, none⟩ = [.int .u64 q][j]?) ∧ Sp.Sep b w' (box gl [.slice A Q.L.l.length c, .bool Q.L.dn, .int .i64 Q.L.fu, .int .i64 Q.L.fa, .int .i64 Q.L.size, .int .u64 Q.L.fr, .int .u64 Q.L.nx, .bool Q.L.br, .slice (some ⟨gp, 0, none⟩) Q.es.length d, .int .i64 Q.most] 101 :: row k67 67 (.slice A (Q.L.l).length c) Q.L.l :: row k41 41 (.slice (some ⟨gp, 0, none⟩) (Q.es).length d) Q.es :: box gs [.int .u64 q] 28 :: ts)) (ds := [10]) #[false, false, false, false, false, false, false, false, false, false, false] (by kernel_rfl) rfl rfl ⟨(fun j => ((Sep.drew H.out)).cell (g := gl) aP j), (fun j => ((Sep.drew H.out)).cell (g := gs) mem3 j), (Sep.drew H.out)⟩ (fun hHeld => ?_)
  refine puS (i := 0) (N := some 3) (v := ?_) (a' := ?_) rfl rfl (by kernel_rfl) (fun _ _ _ h => h) (Or.inl ⟨by rfl, ?_⟩) ?_ ?_
  rotate_left
  ·intro w'
   go_simp
   with_reducible rfl
  rotate_left
  ·simp only [Act.put, zA, zZ, zS, aI, aJ]
   rfl
  refine puS (i := 1) (N := some 4) (v := ?_) (a' := ?_) rfl rfl (by kernel_rfl) (fun _ _ _ h => h) (Or.inl ⟨by rfl, ?_⟩) ?_ ?_
  rotate_left
  ·intro w'
   go_simp
   with_reducible rfl
  rotate_left
  ·simp only [Act.put, zA, zZ, zS, aI, aJ]
   rfl
  refine puS (i := 2) (N := some 5) (v := ?_) (a' := ?_) rfl rfl (by kernel_rfl) (fun _ _ _ h => h) (Or.inl ⟨by rfl, ?_⟩) ?_ ?_
  rotate_left
  ·intro w'
   go_simp
   with_reducible rfl
  rotate_left
  ·simp only [Act.put, zA, zZ, zS, aI, aJ]
   rfl
  refine puS (i := 3) (N := some 6) (v := ?_) (a' := ?_) rfl rfl (by kernel_rfl) (fun _ _ _ h => h) (Or.inl ⟨by rfl, ?_⟩) ?_ ?_
  rotate_left
  ·intro w'
   go_simp
   with_reducible rfl
  rotate_left
  ·simp only [Act.put, zA, zZ, zS, aI, aJ]
   rfl
  refine puS (i := 5) (N := some 8) (v := ?_) (a' := ?_) rfl rfl (by kernel_rfl) (fun _ _ _ h => h) (Or.inl ⟨by rfl, ?_⟩) ?_ ?_
  rotate_left
  ·intro w'
   go_simp
   with_reducible rfl
  rotate_left
  ·simp only [Act.put, zA, zZ, zS, aI, aJ]
   rfl
  refine tkS (i := 4) (N := some 7) (v := ?_) (a' := ?_) rfl rfl (by kernel_rfl) (fun _ _ _ h => h) (Or.inl ⟨by rfl, ?_⟩) hHeld ?_ ?_
  rotate_left
  ·rintro w' ⟨s0, s1, s2⟩
   go_simp
   with_reducible rfl
  rotate_left
  ·simp only [Act.put, zA, zZ, zS, aI, aJ]
   rfl
  refine tkS (i := 6) (N := some 9) (v := ?_) (a' := ?_) rfl rfl (by kernel_rfl) (fun _ _ _ h => h) (Or.inl ⟨by rfl, ?_⟩) hHeld ?_ ?_
  rotate_left
  ·rintro w' ⟨s0, s1, s2⟩
   go_simp
   with_reducible rfl
  rotate_left
  ·simp only [Act.put, zA, zZ, zS, aI, aJ]
   rfl
  refine onS (i := 7) (N := some 10) rfl rfl (by kernel_rfl) (by decide) (fun K hK => ?_)
  refine sD Tryz.func60 (by kernel_rfl) rfl #[.pointer (some ⟨gl, 0, none⟩), .int .u64 q] (by rfl) rfl rfl (by simp only [List.map_toArray, List.map_cons, List.map_nil]; rfl) ?_
  refine (AY gl A c (some ⟨gp, 0, none⟩) d Q q (rs := box gs [.int .u64 q] 28 :: ts) ⟨hHeld.2.2⟩).mono ?_
  rintro e w6 ⟨hE, H4⟩
  rw [HIX.out] at hE
  rcases hE with ⟨i2, hi2, rfl⟩ | ⟨hi2, _⟩
  rotate_left
  ·cases hi2
  obtain rfl : i = i2 := Option.some.inj hi2
  clear hi2
  obtain ⟨k0, k1, k2, kf⟩ := oI (gp := gp) (d := d) (es := Q.es) H4.out mem2 HX.out
  have kf2 := kf (i * 3 + 2)
  clear kf
  refine .inl ⟨_, rfl, ?_⟩
  refine hK.out _ _ ⟨(fun j => (H4.out).cell (g := gl) aP j), (fun j => (H4.out).cell (g := gs) mem3 j), H4.out⟩ (fun hHeld => ?_)
  clear hK K
  refine fE (a' := ?_) ?_ ?_
  rotate_left
  ·show Act.put _ (some 10) _ = _
   simp only [Act.put, zA, zZ, zS, aI, aJ]
   rfl
  refine puS (i := 8) (N := some 11) (v := ?_) (a' := ?_) rfl rfl (by kernel_rfl) (fun _ _ _ h => h) (Or.inl ⟨by rfl, ?_⟩) ?_ ?_
  rotate_left
  ·intro w'
   go_simp
   with_reducible rfl
  rotate_left
  ·simp only [Act.put, zA, zZ, zS, aI, aJ]
   rfl
  refine puS (i := 9) (N := some 12) (v := ?_) (a' := ?_) rfl rfl (by kernel_rfl) (fun _ _ _ h => h) (Or.inl ⟨by rfl, ?_⟩) ?_ ?_
  rotate_left
  ·intro w'
   go_simp
   with_reducible rfl
  rotate_left
  ·simp only [Act.put, zA, zZ, zS, aI, aJ]
   rfl
  refine laS (i := 10) (N := none) rfl rfl (by kernel_rfl) (by decide) (fun K hK => ?_)
  refine wG (w1 := ?_) (by rfl) rfl ?_ ?_
  rotate_left
  ·go_simp
   rfl
  refine hK.out _ _ ?_
  clear hK K
  refine iT (by kernel_rfl) ?_
  have h9 := kU (pre := [box gl [.slice A Q.L.l.length c, .bool Q.L.dn, .int .i64 Q.L.fu, .int .i64 Q.L.fa, .int .i64 Q.L.size, .int .u64 Q.L.fr, .int .u64 Q.L.nx, .bool Q.L.br, .slice (some ⟨gp, 0, none⟩) Q.es.length d, .int .i64 Q.most] 101, row k67 67 (.slice A (Q.L.l).length c) Q.L.l]) (l' := es2) (j := i * 3 + 2) (u := .bool false) rfl H4.out HL2.out HX1.out (by have := (List.getElem?_eq_some_iff.1 HX.out).1; omega)
  go_end0
  rw [HV.out]
  rw [← HL2.out] at h9
  exact ⟨.inl ⟨rfl, rfl⟩, A, c, some ⟨gp, 0, none⟩, d, ⟨h9⟩⟩
theorem qbn {L : Lg} {k : Nat} : (iK L k).1.nx = L.nx := by
 unfold iK
 split <;> rfl
theorem ZU {L R : Lg} {d : ByteArray} (h : dG L d = (R, 0)) : R.nx = L.nx + 1 ∧ L.nx < 4611686018427387904 ∧ R.fr = L.fr := by
 rw [dG] at h
 split at h
 case isFalse => cases h
 rw [jG] at h
 split at h
 ·cases h
 split at h
 ·cases h
 split at h
 ·cases h
 rename_i hm
 split at h
 case isFalse hz => exact absurd (by rw [h]) hz
 rename_i hz
 have hfr : (iK L (fV L.nx d).size).1.fr = L.fr := by
  unfold iK
  split <;> rfl
 have hnx := qbn (L := L) (k := (fV L.nx d).size)
 generalize iK L (fV L.nx d).size = X at h hfr hnx
 unfold pI at h
 split at h
 case isFalse hz1 => exact absurd (by rw [h]) hz1
 split at h
 case isFalse hz2 => exact absurd (by rw [h]) hz2
 obtain ⟨h, _⟩ := Prod.mk.inj h
 rw [← h]
 refine ⟨?_, by omega, hfr⟩
 show X.1.nx + 1 = _
 rw [hnx]
def rH (es : List S41) (nx : Int) : Int := match es with | [] => nx | x :: _ => x.f0
noncomputable def F9 (Q : Qu) (q : Int) : Qu × Int := match sK (lM q) Q.es with
 | none => (Q, 19)
 | some i => if (dG Q.L (kM q)).2 = 0 then
   (⟨(jH (dG Q.L (kM q)).1 (rH (Q.es.eraseIdx i) (dG Q.L (kM q)).1.nx)).1, Q.es.eraseIdx i, Q.most⟩, (jH (dG Q.L (kM q)).1 (rH (Q.es.eraseIdx i) (dG Q.L (kM q)).1.nx)).2)
  else (⟨(dG Q.L (kM q)).1, Q.es, Q.most⟩, (dG Q.L (kM q)).2)
theorem xI {nx : Int} : ∀ {l : List S41} {least : Int}, 0 ≤ least → oH nx least l → ∀ x ∈ l, 0 ≤ x.f0 ∧ x.f0 < nx
 | [], _, _, _, x, hx => by cases hx
 | y :: r, least, h0, h, x, hx => by
  obtain ⟨_, h2, h3, h4⟩ := h
  rcases List.mem_cons.1 hx with rfl | hx
  ·exact ⟨by omega, h3⟩
  ·exact xI (by omega) h4 x hx
set_option maxHeartbeats 8000000 in
theorem qdR (b : World) (Q : Qu) (gs : Nat) (q : Int) (hq0 : 0 ≤ q) (hq1 : q < 18446744073709551616) (hG : Gl b) (hnx : 0 ≤ Q.L.nx) (hnx2 : Q.L.nx < 18446744073709551616) (hfr : 0 ≤ Q.L.fr) (hok : okQ Q) : yS b 59 [.pointer (some ⟨gs, 0, none⟩)] Q [box gs [.int .u64 q] 28] [box gs [.int .u64 q] 28] (F9 Q q).1 (F9 Q q).2 := by
 intro gl A c B d w ts H0
 have HG := aC.mk hG
 have hel : Q.es.length ≤ 1024 := hok.2.2.2.1
 have HEL := aC.mk hel
 have HES : aC (∀ x ∈ Q.es, 0 ≤ x.f0 ∧ x.f0 < Q.L.nx) := ⟨xI hfr hok.2.2.2.2⟩
 have HQ0 := aC.mk hq0
 have HQ1 := aC.mk hq1
 obtain ⟨R, hR⟩ : ∃ R, R = F9 Q q := ⟨_, rfl⟩
 rw [← hR]
 have HR := aC.mk hR
 have HAP := aC.mk (fun A c w hr hc hG => JV A c Q.L (kM q) w hr hc hG hnx hnx2)
 obtain ⟨L1, e1, hL1⟩ : ∃ L1 e1, dG Q.L (kM q) = (L1, e1) := ⟨_, _, rfl⟩
 rw [hL1] at HAP
 simp only [lgc] at HAP
 have HL1 := aC.mk hL1
 have HNX := aC.mk hnx
 clear hR hG hL1 hnx hnx2 hel hfr hok hq0 hq1
 have H : aC (Sep b w (box gl [.slice A Q.L.l.length c, .bool Q.L.dn, .int .i64 Q.L.fu, .int .i64 Q.L.fa, .int .i64 Q.L.size, .int .u64 Q.L.fr, .int .u64 Q.L.nx, .bool Q.L.br, .slice B Q.es.length d, .int .i64 Q.most] 101 :: row k67 67 (.slice A (Q.L.l).length c) Q.L.l :: row k41 41 (.slice B (Q.es).length d) Q.es :: box gs [.int .u64 q] 28 :: ts)) := H0
 clear H0
 have c_l := H.out.cell (g := gl) aP
 have c_s := H.out.cell (g := gs) mem3
 go_enter Tryz.func59, Tryz.ntmps59
 go_wp2_with fail
 refine (AY gl A c B d Q q (rs := box gs [.int .u64 q] 28 :: ts) H).mono ?_
 rintro e wd1 ⟨hE, H4⟩
 have n_ : aC (Sep b wd1 (box gl [.slice A Q.L.l.length c, .bool Q.L.dn, .int .i64 Q.L.fu, .int .i64 Q.L.fa, .int .i64 Q.L.size, .int .u64 Q.L.fr, .int .u64 Q.L.nx, .bool Q.L.br, .slice B Q.es.length d, .int .i64 Q.most] 101 :: row k67 67 (.slice A (Q.L.l).length c) Q.L.l :: row k41 41 (.slice B (Q.es).length d) Q.es :: box gs [.int .u64 q] 28 :: ts)) := ⟨H4.out⟩
 clear H c_l c_s
 have H := n_
 clear n_
 have c_l := H.out.cell (g := gl) aP
 have c_s := H.out.cell (g := gs) mem3
 clear H4
 rcases hE with ⟨i, hix, rfl⟩ | ⟨hix, rfl⟩
 ·
  have hil := OZ hix
  have HIX := aC.mk hix
  have hi0 : (0 : Int) ≤ (i : Int) := by omega
  have HIL := aC.mk hil
  clear hix hil
  go_upto_region 1 with fail
  refine fO (n := 12) (S := fun w' => (∀ j : Nat, w'.cell? ⟨gl, j, none⟩ = [.slice A Q.L.l.length c, .bool Q.L.dn, .int .i64 Q.L.fu, .int .i64 Q.L.fa, .int .i64 Q.L.size, .int .u64 Q.L.fr, .int .u64 Q.L.nx, .bool Q.L.br, .slice B Q.es.length d, .int .i64 Q.most][j]?) ∧ (∀ j : Nat, w'.cell? ⟨gs, j, none⟩ = [.int .u64 q][j]?) ∧ Sp.Sep b w' (box gl [.slice A Q.L.l.length c, .bool Q.L.dn, .int .i64 Q.L.fu, .int .i64 Q.L.fa, .int .i64 Q.L.size, .int .u64 Q.L.fr, .int .u64 Q.L.nx, .bool Q.L.br, .slice B Q.es.length d, .int .i64 Q.most] 101 :: row k67 67 (.slice A (Q.L.l).length c) Q.L.l :: row k41 41 (.slice B (Q.es).length d) Q.es :: box gs [.int .u64 q] 28 :: ts)) (ds := [11]) #[false, false, false, false, false, false, false, false, false, false, false, false] (by kernel_rfl) rfl rfl ⟨(fun j => ((Sep.drew H.out)).cell (g := gl) aP j), (fun j => ((Sep.drew H.out)).cell (g := gs) mem3 j), (Sep.drew H.out)⟩ (fun hHeld => ?_)
  refine puS (i := 0) (N := some 8) (v := ?_) (a' := ?_) rfl rfl (by kernel_rfl) (fun _ _ _ h => h) (Or.inl ⟨by rfl, ?_⟩) ?_ ?_
  rotate_left
  ·intro w'
   go_simp
   with_reducible rfl
  rotate_left
  ·simp only [Act.put, zA, zZ, zS, aI, aJ]
   rfl
  refine puS (i := 1) (N := some 9) (v := ?_) (a' := ?_) rfl rfl (by kernel_rfl) (fun _ _ _ h => h) (Or.inl ⟨by rfl, ?_⟩) ?_ ?_
  rotate_left
  ·intro w'
   go_simp
   with_reducible rfl
  rotate_left
  ·simp only [Act.put, zA, zZ, zS, aI, aJ]
   rfl
  refine puS (i := 2) (N := some 10) (v := ?_) (a' := ?_) rfl rfl (by kernel_rfl) (fun _ _ _ h => h) (Or.inl ⟨by rfl, ?_⟩) ?_ ?_
  rotate_left
  ·intro w'
   go_simp
   with_reducible rfl
  rotate_left
  ·simp only [Act.put, zA, zZ, zS, aI, aJ]
   rfl
  refine puS (i := 3) (N := some 11) (v := ?_) (a' := ?_) rfl rfl (by kernel_rfl) (fun _ _ _ h => h) (Or.inl ⟨by rfl, ?_⟩) ?_ ?_
  rotate_left
  ·intro w'
   go_simp
   with_reducible rfl
  rotate_left
  ·simp only [Act.put, zA, zZ, zS, aI, aJ]
   rfl
  refine puS (i := 4) (N := some 12) (v := ?_) (a' := ?_) rfl rfl (by kernel_rfl) (fun _ _ _ h => h) (Or.inl ⟨by rfl, ?_⟩) ?_ ?_
  rotate_left
  ·intro w'
   go_simp
   with_reducible rfl
  rotate_left
  ·simp only [Act.put, zA, zZ, zS, aI, aJ]
   rfl
  refine tkS (i := 5) (N := some 13) (v := ?_) (a' := ?_) rfl rfl (by kernel_rfl) (fun _ _ _ h => h) (Or.inl ⟨by rfl, ?_⟩) hHeld ?_ ?_
  rotate_left
  ·rintro w' ⟨s0, s1, s2⟩
   go_simp
   with_reducible rfl
  rotate_left
  ·simp only [Act.put, zA, zZ, zS, aI, aJ]
   rfl
  refine tkS (i := 6) (N := some 14) (v := ?_) (a' := ?_) rfl rfl (by kernel_rfl) (fun _ _ _ h => h) (Or.inl ⟨by rfl, ?_⟩) hHeld ?_ ?_
  rotate_left
  ·rintro w' ⟨s0, s1, s2⟩
   go_simp
   with_reducible rfl
  rotate_left
  ·simp only [Act.put, zA, zZ, zS, aI, aJ]
   rfl
  refine onS (i := 7) (N := some 15) rfl rfl (by kernel_rfl) (by decide) (fun K hK => ?_)
  refine oC Tryz.func61 (by kernel_rfl) rfl #[.int .u64 q] (by rfl) rfl rfl (by simp only [List.map_toArray, List.map_cons, List.map_nil]; rfl) ?_
  with_reducible refine (ZR q _ HQ0.out HQ1.out).mono ?_
  rintro e w5 ⟨rfl, hb5⟩
  refine ⟨_, rfl, ?_⟩
  refine hK.out _ _ ⟨(fun j => ((Sep.step hHeld.2.2 hb5)).cell (g := gl) aP j), (fun j => ((Sep.step hHeld.2.2 hb5)).cell (g := gs) mem3 j), (Sep.step hHeld.2.2 hb5)⟩ (fun hHeld => ?_)
  clear hK K
  refine fE (a' := ?_) ?_ ?_
  rotate_left
  ·show Act.put _ (some 15) _ = _
   simp only [Act.put, zA, zZ, zS, aI, aJ]
   rfl
  refine onS (i := 8) (N := some 16) rfl rfl (by kernel_rfl) (by decide) (fun K hK => ?_)
  refine oC Tryz.func31 (by kernel_rfl) rfl #[.agg #[.slice A Q.L.l.length c, .bool Q.L.dn, .int .i64 Q.L.fu, .int .i64 Q.L.fa, .int .i64 Q.L.size, .int .u64 Q.L.fr, .int .u64 Q.L.nx, .bool Q.L.br], .string (kM q)] (by rfl) rfl rfl (by simp only [List.map_toArray, List.map_cons, List.map_nil]; rfl) ?_
  with_reducible refine (HAP.out A c _ (Sep.reads hHeld.2.2 mem1).2.2 (Sep.reads hHeld.2.2 mem1).2.1 (HG.out.below (Sep.below hHeld.2.2))).mono ?_
  rintro e w6 ⟨A5, c5, rfl, HJ⟩
  try simp only [lgc]
  have HN := fM hHeld.2.2 HJ.out
  refine ⟨_, rfl, ?_⟩
  refine hK.out _ _ ⟨(fun j => (HN).cell (g := gl) mem1 j), (fun j => (HN).cell (g := gs) bT j), (HN).eG⟩ (fun hHeld => ?_)
  clear hK K
  refine fE (a' := ?_) ?_ ?_
  rotate_left
  ·show Act.put _ (some 16) _ = _
   simp only [Act.put, zA, zZ, zS, aI, aJ]
   rfl
  refine puS (i := 9) (N := some 17) (v := ?_) (a' := ?_) rfl rfl (by kernel_rfl) (fun _ _ _ h => h) (Or.inl ⟨by rfl, ?_⟩) ?_ ?_
  rotate_left
  ·intro w'
   go_simp
   with_reducible rfl
  rotate_left
  ·simp only [Act.put, zA, zZ, zS, aI, aJ]
   rfl
  refine puS (i := 10) (N := some 18) (v := ?_) (a' := ?_) rfl rfl (by kernel_rfl) (fun _ _ _ h => h) (Or.inl ⟨by rfl, ?_⟩) ?_ ?_
  rotate_left
  ·intro w'
   go_simp
   with_reducible rfl
  rotate_left
  ·simp only [Act.put, zA, zZ, zS, aI, aJ]
   rfl
  refine laS (i := 11) (N := some 19) rfl rfl (by kernel_rfl) (by decide) (fun K hK => ?_)
  refine sD Tryz.func55 (by kernel_rfl) rfl #[.pointer (some ⟨gl, 0, none⟩), .agg #[.slice A5 L1.l.length c5, .bool L1.dn, .int .i64 L1.fu, .int .i64 L1.fa, .int .i64 L1.size, .int .u64 L1.fr, .int .u64 L1.nx, .bool L1.br], .int .i64 e1] (by rfl) rfl rfl (by simp only [List.map_toArray, List.map_cons, List.map_nil]; rfl) ?_
  refine (log_any gl A c B d Q A5 c5 L1 e1 (rs := lV A5 c5 L1.l :: row k67 67 (.slice A (Q.L.l).length c) Q.L.l :: row k41 41 (.slice B (Q.es).length d) Q.es :: box gs [.int .u64 q] 28 :: ts) ⟨HN.iW⟩).mono ?_
  rintro e w7 ⟨hE, H4⟩
  rcases hE with ⟨hz, rfl⟩ | ⟨hnz, rfl⟩
  rotate_left
  ·refine .inr ⟨_, rfl, ?_⟩
   have hV : R = (⟨L1, Q.es, Q.most⟩, e1) := by rw [HR.out, F9, HIX.out]; simp only [HL1.out]; rw [if_neg hnz]
   show _ ∧ _
   rw [hV]
   exact ⟨rfl, .inr ⟨hnz, rfl⟩, A5, c5, B, d, ⟨H4.out.drop2⟩⟩
  refine .inl ⟨_, rfl, ?_⟩
  refine hK.out _ _ ?_
  clear hK K
  refine fE (a' := ?_) ?_ ?_
  rotate_left
  ·show Act.put _ (some 19) _ = _
   simp only [Act.put, zA, zZ, zS, aI, aJ]
   rfl
  refine iT (by kernel_rfl) ?_
  have n_ : aC (Sep b w7 (box gl [.slice A5 L1.l.length c5, .bool L1.dn, .int .i64 L1.fu, .int .i64 L1.fa, .int .i64 L1.size, .int .u64 L1.fr, .int .u64 L1.nx, .bool L1.br, .slice B Q.es.length d, .int .i64 Q.most] 101 :: row k67 67 (.slice A5 (L1.l).length c5) L1.l :: row k41 41 (.slice B (Q.es).length d) Q.es :: box gs [.int .u64 q] 28 :: ts)) := ⟨H4.out.drop2⟩
  clear H4 HN HJ hHeld
  clear H c_l c_s
  have H := n_
  clear n_
  have c_l := H.out.cell (g := gl) aP
  have z_l := H.out.frozen (g := gl) aP
  have c_s := H.out.cell (g := gs) mem3
  subst hz
  obtain ⟨gp, hgp⟩ := oW (B := B) (d := d) (es := Q.es) H.out mem2 (by have := HIL.out; omega)
  subst hgp
  have hi1 : wrap64 ((i : Int) + 1) = (i : Int) + 1 := by
   have h1 := HIL.out
   have h2 := HEL.out
   unfold wrap64
   omega
  go_wp2_with fail
  try rw [hi1]
  refine (rQ (i := i) HIL.out HEL.out ⟨H.out.iY⟩).mono ?_
  rintro e wd2 ⟨rfl, H4⟩
  obtain ⟨es2, hes2⟩ : ∃ es2, es2 = Q.es.eraseIdx i := ⟨_, rfl⟩
  rw [← hes2] at H4 ⊢
  have HE2 := aC.mk hes2
  have HS2 : aC (∀ x ∈ es2, 0 ≤ x.f0 ∧ x.f0 < Q.L.nx) := ⟨fun x hx => HES.out x (by rw [hes2] at hx; exact List.mem_of_mem_eraseIdx hx)⟩
  have HN1 := aC.mk (ZU HL1.out)
  clear hes2
  have n_ : aC (Sep b wd2 (row k41 41 (.slice (some ⟨gp, 0, none⟩) (es2).length d) es2 :: box gl [.slice A5 L1.l.length c5, .bool L1.dn, .int .i64 L1.fu, .int .i64 L1.fa, .int .i64 L1.size, .int .u64 L1.fr, .int .u64 L1.nx, .bool L1.br, .slice (some ⟨gp, 0, none⟩) Q.es.length d, .int .i64 Q.most] 101 :: row k67 67 (.slice A5 (L1.l).length c5) L1.l :: box gs [.int .u64 q] 28 :: ts)) := ⟨H4.out⟩
  clear H c_l z_l c_s
  have H := n_
  clear n_
  have c_l := H.out.cell (g := gl) mem1
  have z_l := H.out.frozen (g := gl) mem1
  have c_s := H.out.cell (g := gs) mem3
  clear H4
  cases hes : es2 with
  | nil =>
   rw [hes] at H HE2 HS2
   clear hes
   have hf0 : 0 ≤ L1.nx := by have h1 := HN1.out; have h2 := HNX.out; omega
   have HDR := aC.mk (fun A c w hr hc hG => RD A c L1 L1.nx hf0 w hr hc hG (by have h1 := HN1.out; have h2 := HNX.out; omega) (by have h1 := HN1.out; omega))
   obtain ⟨L2, e2, hL2⟩ : ∃ L2 e2, jH L1 L1.nx = (L2, e2) := ⟨_, _, rfl⟩
   rw [hL2] at HDR
   have hRV : R = (⟨L2, [], Q.most⟩, e2) := by
    rw [HR.out, F9, HIX.out]
    simp only [HL1.out, ← HE2.out, rH, if_true, hL2]
   have HRV := aC.mk hRV
   clear hRV hL2 hf0
   go_wp2_with (first
 |((with_reducible refine aV (t := 31) (p := 32) rfl ?_);
   refine bH (rs1 := (row k41 41 (.slice (some ⟨gp, 0, none⟩) ([]).length d) ([]) :: box gl [.slice A5 L1.l.length c5, .bool L1.dn, .int .i64 L1.fu, .int .i64 L1.fa, .int .i64 L1.size, .int .u64 L1.fr, .int .u64 L1.nx, .bool L1.br, .slice (some ⟨gp, 0, none⟩) 0 d, .int .i64 Q.most] 101 :: row k67 67 (.slice A5 (L1.l).length c5) L1.l :: box gs [.int .u64 q] 28 :: ts)) rfl (t := 31) (p := 32) rfl rfl ?hr (H1 := (Sep.set1 H.out 8 (.slice (some ⟨gp, 0, none⟩) 0 d) rfl)) ?_;
   (case hr => first | (go_simp; done) | (go_simp; rfl));
   intro wd3 n_;
   clear H c_l z_l c_s;
   have H := n_;
   clear n_;
   have c_l := H.out.cell (g := gl) mem1;
   have z_l := H.out.frozen (g := gl) mem1;
   have c_s := H.out.cell (g := gs) mem3)
 |fail)
   refine ((HDR.out A5 c5 _ (H.out.reads mem2).2.2 (H.out.reads mem2).2.1 (HG.out.below H.out.below)).mono ?_)
   rintro e wd4 ⟨A6, c6, rfl, HJ⟩
   have n_ : aC (Sep b wd4 (row k67 67 (.slice A6 (L2.l).length c6) L2.l :: row k41 41 (.slice (some ⟨gp, 0, none⟩) ([]).length d) ([]) :: box gl [.slice A5 L1.l.length c5, .bool L1.dn, .int .i64 L1.fu, .int .i64 L1.fa, .int .i64 L1.size, .int .u64 L1.fr, .int .u64 L1.nx, .bool L1.br, .slice (some ⟨gp, 0, none⟩) 0 d, .int .i64 Q.most] 101 :: row k67 67 (.slice A5 (L1.l).length c5) L1.l :: box gs [.int .u64 q] 28 :: ts)) := ⟨fM H.out HJ.out⟩
   clear H c_l z_l c_s
   have H := n_
   clear n_
   have c_l := H.out.cell (g := gl) mem2
   have z_l := H.out.frozen (g := gl) mem2
   have c_s := H.out.cell (g := gs) bT
   clear HJ
   simp only [lgc]
   clear HDR
   go_wp2_with fail
   refine (log_any gl A5 c5 (some ⟨gp, 0, none⟩) d ⟨L1, [], Q.most⟩ A6 c6 L2 e2 (rs := row k67 67 (.slice A6 (L2.l).length c6) L2.l :: row k41 41 (.slice (some ⟨gp, 0, none⟩) ([]).length d) ([]) :: row k67 67 (.slice A5 (L1.l).length c5) L1.l :: box gs [.int .u64 q] 28 :: ts) ⟨(Sep.iR (Sep.oZ (Sep.oZ (Sep.iR (Sep.iR H.out)))))⟩).mono ?_
   rintro e wd5 ⟨hE, H4⟩
   rcases hE with ⟨hz, rfl⟩ | ⟨hnz, rfl⟩
   ·
    subst hz
    go_wp2_with fail
    go_end0
    rw [HRV.out]
    exact ⟨.inl ⟨rfl, rfl⟩, A6, c6, (some ⟨gp, 0, none⟩), d, ⟨(Sep.iJ H4.out)⟩⟩
   ·
    try go_wp2_with fail
    show _ ∧ _
    rw [HRV.out]
    exact ⟨rfl, .inr ⟨hnz, rfl⟩, A6, c6, (some ⟨gp, 0, none⟩), d, ⟨(Sep.iJ H4.out)⟩⟩
  | cons x0 r0 =>
   rw [hes] at H HE2 HS2
   clear hes
   have hf0 : 0 ≤ x0.f0 := (HS2.out x0 (List.mem_cons_self ..)).1
   have HDR := aC.mk (fun A c w hr hc hG => RD A c L1 x0.f0 hf0 w hr hc hG (by have h1 := HN1.out; have h2 := HNX.out; omega) (by have h1 := HN1.out; omega))
   obtain ⟨L2, e2, hL2⟩ : ∃ L2 e2, jH L1 x0.f0 = (L2, e2) := ⟨_, _, rfl⟩
   rw [hL2] at HDR
   have hRV : R = (⟨L2, x0 :: r0, Q.most⟩, e2) := by
    rw [HR.out, F9, HIX.out]
    simp only [HL1.out, ← HE2.out, rH, if_true, hL2]
   have HRV := aC.mk hRV
   clear hRV hL2 hf0
   obtain ⟨k0, k1, k2, -⟩ := oI (gp := gp) (d := d) (i := 0) (x := x0) H.out aP rfl
   simp only [Nat.zero_mul, Nat.zero_add] at k0 k1 k2
   clear k1 k2
   go_wp2_with (first
 |((with_reducible refine aV (t := 31) (p := 32) rfl ?_);
   refine bH (rs1 := (row k41 41 (.slice (some ⟨gp, 0, none⟩) ((x0 :: r0)).length d) ((x0 :: r0)) :: box gl [.slice A5 L1.l.length c5, .bool L1.dn, .int .i64 L1.fu, .int .i64 L1.fa, .int .i64 L1.size, .int .u64 L1.fr, .int .u64 L1.nx, .bool L1.br, .slice (some ⟨gp, 0, none⟩) (x0 :: r0).length d, .int .i64 Q.most] 101 :: row k67 67 (.slice A5 (L1.l).length c5) L1.l :: box gs [.int .u64 q] 28 :: ts)) rfl (t := 31) (p := 32) rfl rfl ?hr (H1 := (Sep.set1 H.out 8 (.slice (some ⟨gp, 0, none⟩) (x0 :: r0).length d) rfl)) ?_;
   (case hr => first | (go_simp; done) | (go_simp; rfl));
   intro wd6 n_;
   clear H c_l z_l c_s;
   have H := n_;
   clear n_;
   have c_l := H.out.cell (g := gl) mem1;
   have z_l := H.out.frozen (g := gl) mem1;
   have c_s := H.out.cell (g := gs) mem3;
   obtain ⟨m0, _, _, _⟩ := oI (gp := gp) (d := d) (i := 0) (x := x0) H.out aP rfl;
   simp only [Nat.zero_mul] at m0;
   clear k0)
 |fail)
   refine ((HDR.out A5 c5 _ (H.out.reads mem2).2.2 (H.out.reads mem2).2.1 (HG.out.below H.out.below)).mono ?_)
   rintro e wd7 ⟨A6, c6, rfl, HJ⟩
   have n_ : aC (Sep b wd7 (row k67 67 (.slice A6 (L2.l).length c6) L2.l :: row k41 41 (.slice (some ⟨gp, 0, none⟩) ((x0 :: r0)).length d) ((x0 :: r0)) :: box gl [.slice A5 L1.l.length c5, .bool L1.dn, .int .i64 L1.fu, .int .i64 L1.fa, .int .i64 L1.size, .int .u64 L1.fr, .int .u64 L1.nx, .bool L1.br, .slice (some ⟨gp, 0, none⟩) (x0 :: r0).length d, .int .i64 Q.most] 101 :: row k67 67 (.slice A5 (L1.l).length c5) L1.l :: box gs [.int .u64 q] 28 :: ts)) := ⟨fM H.out HJ.out⟩
   clear H c_l z_l c_s
   have H := n_
   clear n_
   have c_l := H.out.cell (g := gl) mem2
   have z_l := H.out.frozen (g := gl) mem2
   have c_s := H.out.cell (g := gs) bT
   clear HJ
   simp only [lgc]
   clear HDR
   go_wp2_with fail
   refine (log_any gl A5 c5 (some ⟨gp, 0, none⟩) d ⟨L1, (x0 :: r0), Q.most⟩ A6 c6 L2 e2 (rs := row k67 67 (.slice A6 (L2.l).length c6) L2.l :: row k41 41 (.slice (some ⟨gp, 0, none⟩) ((x0 :: r0)).length d) ((x0 :: r0)) :: row k67 67 (.slice A5 (L1.l).length c5) L1.l :: box gs [.int .u64 q] 28 :: ts) ⟨(Sep.iR (Sep.oZ (Sep.oZ (Sep.iR (Sep.iR H.out)))))⟩).mono ?_
   rintro e wd8 ⟨hE, H4⟩
   rcases hE with ⟨hz, rfl⟩ | ⟨hnz, rfl⟩
   ·
    subst hz
    go_wp2_with fail
    go_end0
    rw [HRV.out]
    exact ⟨.inl ⟨rfl, rfl⟩, A6, c6, (some ⟨gp, 0, none⟩), d, ⟨(Sep.iJ H4.out)⟩⟩
   ·
    try go_wp2_with fail
    show _ ∧ _
    rw [HRV.out]
    exact ⟨rfl, .inr ⟨hnz, rfl⟩, A6, c6, (some ⟨gp, 0, none⟩), d, ⟨(Sep.iJ H4.out)⟩⟩
 ·
  try go_wp2_with fail
  have hV : R = (Q, 19) := by rw [HR.out, F9, hix]
  show _ ∧ _
  rw [hV]
  exact ⟨rfl, .inr ⟨show (19 : Int) ≠ 0 by decide, rfl⟩, A, c, B, d, H⟩
end Go.Proofs.U
