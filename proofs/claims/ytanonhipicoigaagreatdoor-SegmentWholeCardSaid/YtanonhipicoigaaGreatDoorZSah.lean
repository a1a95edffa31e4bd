import Derived.BigRegion
import Derived.LoopN
import Derived.Deep.DeepCutAuto
import Derived.Test.YtanonhipicoigaaGreatDoorZSag
namespace Go.Proofs.YtanonhipicoigaaGreatDoor.U
open Go.RowKit Go.Proofs.YtanonhipicoigaaGreatDoorW.PrintWords Go.Proofs.YtanonhipicoigaaGreatDoorW.PrintLast Go.Proofs.YtanonhipicoigaaGreatDoorW.PrintMore Go.Proofs.YtanonhipicoigaaGreatDoor.Sp Go.Proofs.YtanonhipicoigaaGreatDoor.SegP
set_option linter.unusedVariables false
set_option linter.unusedSimpArgs false
theorem C62_pre {w : World} {A : Option Addr} {a b : List S62} (h : Kd.C k62 w A (a ++ b).length (a ++ b)) : Kd.C k62 w A a.length a := by
  obtain ⟨h1, h2, h3⟩ := h
  rw [List.length_append] at h2 h3
  refine ⟨rfl, by omega, fun hlt => ?_⟩
  obtain ⟨ad, e, h4⟩ := h3 (by omega)
  exact ⟨ad, e, fun j p hj => h4 j p (by rw [List.getElem?_append_left (List.getElem?_eq_some_iff.1 hj).1]; exact hj)⟩
theorem recR_split (a b : List SegP.Bytes) (n : Nat) : recR (a ++ b) n = recR a n ++ recR b (n + a.length) := recR_append a b n
/-- What SegmentKeeps asks for. -/
theorem keeps_plain {size : Int} {data : List ByteArray} {last : ByteArray} {fu fa : Int} {R : Lg} {want : List S62} {e : Int} (h0 : 1 ≤ size) (h1 : size ≤ 262144) (h : keptF size data last fu fa = (R, want, e)) (ks : List Int) :
    rightF R.l = true ∧ ∃ M ds es, want = recR ds 1 ∧ openF (crashF R.l ks) false (-1) (-1) size = (M, recR (ds ++ es) 1, 0) ∧ WF M (ds ++ es) 1 (1 + (ds ++ es).length) ∧ M.size = size ∧ M.fu = -1 ∧ M.fa = -1 ∧ (es = [] ∨ (e ≠ 0 ∧ es = [byt last])) := by
  obtain ⟨ds, _, hw, hr, _, _, hb⟩ := kept_spec h0 h1 h
  obtain ⟨es, hb, he⟩ := hb ks
  obtain ⟨M, o1, o2, o3, o4, o5⟩ := hb.opens h0 h1
  rcases he with rfl | ⟨h2, rfl⟩
  · exact ⟨hr, M, es, [], hw, by rw [List.append_nil]; exact o1, by rw [List.append_nil]; exact o2, o5, o3, o4, .inl rfl⟩
  · exact ⟨hr, M, ds, [byt last], hw, o1, o2, o5, o3, o4, .inr ⟨h2, rfl⟩⟩
set_option maxHeartbeats 8000000 in
set_option maxRecDepth 100000 in
theorem keeps_any (Ad : Option Addr) (cd : Nat) (data : List ByteArray) (size fu fa : Int) (last : ByteArray) (Ak : Option Addr) (ck : Nat) (ks : List Int) (w : World) (hr : Kd.C Kd.string w Ad data.length data) (hc : data.length ≤ cd) (hrk : Kd.C (Kd.int .i64) w Ak ks.length ks) (hck : ks.length ≤ ck) (hG : Gl w) :
    Calls Tryz.prog 6 #[.int .i64 size, .slice Ad data.length cd, .string last, .int .i64 fu, .int .i64 fa, .slice Ak ks.length ck] w fun e w' => e = .returned (.bool true) ∧ Below w.heap.size w w' := by
  have HRp := Aside0.mk hr
  have HCp := Aside0.mk hc
  have HRk := Aside0.mk hrk
  have HCk := Aside0.mk hck
  have HG := Aside0.mk hG
  have HKP := Aside0.mk (fun w hr hc hG => kept_any Ad cd data size fu fa last w hr hc hG)
  clear hr hc hrk hck hG
  obtain ⟨R, want, why, hK⟩ : ∃ R want why, keptF size data last fu fa = (R, want, why) := ⟨_, _, _, rfl⟩
  rw [hK] at HKP
  dsimp only at HKP
  have HK := Aside0.mk hK
  clear hK
  have H := Aside0.mk (Sep.start w)
  go_enter Tryz.func6, Tryz.ntmps6
  go_wp2_with fail
  refine ((lives_any _ (HG.out.below H.out.below)).mono ?_)
  rintro e wd1 ⟨rfl, hb_⟩
  have n_ : Aside0 (Sep w wd1 []) := ⟨H.out.step hb_⟩
  clear H
  have H := n_
  clear n_
  clear hb_
  go_wp2_with fail
  refine ((HKP.out _ (H.out.came HRp.out) HCp.out (HG.out.below H.out.below)).mono ?_)
  rintro e wd2 ⟨A1, c1, A2, c2, rfl, HJ⟩
  have n_ : Aside0 (Sep w wd2 [row k67 67 (.slice A1 (R.l).length c1) R.l, row k62 62 (.slice A2 (want).length c2) want]) := ⟨sep_join H.out HJ.out⟩
  clear H
  have H := n_
  clear n_
  clear HJ
  simp only [lgc]
  clear HKP
  by_cases hsz : size < 1 ∨ 262144 < size
  ·
    have hw0 : why = 2 := by
      have h := HK.out
      rw [kept_bad data last fu fa hsz] at h
      exact (Prod.mk.inj (Prod.mk.inj h).2).2.symm
    subst hw0
    by_cases hs1 : size < 1
    ·
      clear hsz
      go_wp2_with (first
 | ((with_reducible refine gate_dst (N := 13) rfl ?_);
    refine new_box rfl H (cs := [.slice none 0 0, .bool false, .int .i64 0, .int .i64 0, .int .i64 0, .int .u64 0, .int .u64 0, .bool false]) (t := 30) ?hr ?_;
    (case hr => first | (go_simp; done) | (go_simp; rfl));
    intro gb wd3 n_;
    simp only [Act.put, List.setIfInBounds_toArray, List.set_cons_zero, List.set_cons_succ];
    clear H;
    have H := n_;
    clear n_;
    have c_b := H.out.cell (g := gb) mem0;
    have z_b := H.out.frozen (g := gb) mem0)
 | ((with_reducible refine gate_store (t := 30) (p := 13) rfl ?_);
    refine put_box (rs1 := [box gb [.slice A1 R.l.length c1, .bool R.dn, .int .i64 R.fu, .int .i64 R.fa, .int .i64 R.size, .int .u64 R.fr, .int .u64 R.nx, .bool R.br] 30, row k67 67 (.slice A1 (R.l).length c1) R.l, row k62 62 (.slice A2 (want).length c2) want]) rfl (t := 30) (p := 13) rfl rfl ?hr (H1 := (Sep.set0 (Sep.set0 (Sep.set0 (Sep.set0 (Sep.set0 (Sep.set0 (Sep.set0 (Sep.set0 H.out 0 (.slice A1 R.l.length c1) rfl) 1 (.bool R.dn) rfl) 2 (.int .i64 R.fu) rfl) 3 (.int .i64 R.fa) rfl) 4 (.int .i64 R.size) rfl) 5 (.int .u64 R.fr) rfl) 6 (.int .u64 R.nx) rfl) 7 (.bool R.br) rfl)) ?_;
    (case hr => first | (go_simp; done) | (go_simp; rfl));
    intro wd4 n_;
    clear H c_b z_b;
    have H := n_;
    clear n_;
    have c_b := H.out.cell (g := gb) mem0;
    have z_b := H.out.frozen (g := gb) mem0)
 | fail)
      go_ret
      exact ⟨rfl, H.out.below⟩
    ·
      have hs2 : 262144 < size := by omega
      clear hsz
      go_wp2_with (first
 | ((with_reducible refine gate_dst (N := 13) rfl ?_);
    refine new_box rfl H (cs := [.slice none 0 0, .bool false, .int .i64 0, .int .i64 0, .int .i64 0, .int .u64 0, .int .u64 0, .bool false]) (t := 30) ?hr ?_;
    (case hr => first | (go_simp; done) | (go_simp; rfl));
    intro gb wd5 n_;
    simp only [Act.put, List.setIfInBounds_toArray, List.set_cons_zero, List.set_cons_succ];
    clear H;
    have H := n_;
    clear n_;
    have c_b := H.out.cell (g := gb) mem0;
    have z_b := H.out.frozen (g := gb) mem0)
 | ((with_reducible refine gate_store (t := 30) (p := 13) rfl ?_);
    refine put_box (rs1 := [box gb [.slice A1 R.l.length c1, .bool R.dn, .int .i64 R.fu, .int .i64 R.fa, .int .i64 R.size, .int .u64 R.fr, .int .u64 R.nx, .bool R.br] 30, row k67 67 (.slice A1 (R.l).length c1) R.l, row k62 62 (.slice A2 (want).length c2) want]) rfl (t := 30) (p := 13) rfl rfl ?hr (H1 := (Sep.set0 (Sep.set0 (Sep.set0 (Sep.set0 (Sep.set0 (Sep.set0 (Sep.set0 (Sep.set0 H.out 0 (.slice A1 R.l.length c1) rfl) 1 (.bool R.dn) rfl) 2 (.int .i64 R.fu) rfl) 3 (.int .i64 R.fa) rfl) 4 (.int .i64 R.size) rfl) 5 (.int .u64 R.fr) rfl) 6 (.int .u64 R.nx) rfl) 7 (.bool R.br) rfl)) ?_;
    (case hr => first | (go_simp; done) | (go_simp; rfl));
    intro wd6 n_;
    clear H c_b z_b;
    have H := n_;
    clear n_;
    have c_b := H.out.cell (g := gb) mem0;
    have z_b := H.out.frozen (g := gb) mem0)
 | fail)
      go_ret
      exact ⟨rfl, H.out.below⟩
  ·
    have hs1 : ¬ size < 1 := by omega
    have hs2 : ¬ 262144 < size := by omega
    obtain ⟨hR, M, ds, es, rfl, hO, hWM, -, -, -, -⟩ := keeps_plain (by omega) (by omega) HK.out ks
    have HR := Aside0.mk hR
    have HO := Aside0.mk (fun A c w hr hc hG => open_any A c (crashF R.l ks) false (-1) (-1) size w hr hc hG)
    rw [hO] at HO
    dsimp only at HO
    have HWM := Aside0.mk hWM
    have HFW := Aside0.mk hWM.few
    obtain ⟨got, hgot⟩ : ∃ got, got = recR (ds ++ es) 1 := ⟨_, rfl⟩
    rw [← hgot] at HO
    have HGT : Aside0 (got = recR ds 1 ++ recR es (1 + ds.length)) := ⟨by rw [hgot]; exact recR_split ds es 1⟩
    have HGL : Aside0 (got.length = (ds ++ es).length) := ⟨by rw [hgot, recR_length]⟩
    have HGET : Aside0 (∀ (i : Nat) (x : S62), got[i]? = some x → x.f0 = ((1 + i : Nat) : Int)) := ⟨fun i x hx => recR_get (ds ++ es) 1 i x (by rw [← hgot]; exact hx)⟩
    obtain ⟨want, hwant⟩ : ∃ want, want = recR ds 1 := ⟨_, rfl⟩
    rw [← hwant] at HGT H
    have HLE : Aside0 (want.length ≤ got.length ∧ got.length ≤ 1048576) := ⟨by
      constructor
      · rw [HGT.out, List.length_append]; omega
      · rw [HGL.out]; exact HFW.out⟩
    have HSR := Aside0.mk (samerec_refl want (by have := HLE.out; omega))
    have HNX : Aside0 (M.nx = (got.length : Int) + 1 ∧ M.fr = 1) := ⟨by
      have h1 := hWM.nx
      have h2 := hWM.fr
      rw [← HGL.out] at h1
      constructor <;> omega⟩
    have HCK : Aside0 (segment_Check.f M.l M.dn M.fu M.fa M.size M.fr M.nx M.br = some 0) := ⟨by rw [check_eq, if_pos hWM.okL]⟩
    rw [← hwant]
    clear hR hO hWM hgot hwant hsz
    go_wp2_with (first
 | ((with_reducible refine gate_dst (N := 13) rfl ?_);
    refine new_box rfl H (cs := [.slice none 0 0, .bool false, .int .i64 0, .int .i64 0, .int .i64 0, .int .u64 0, .int .u64 0, .bool false]) (t := 30) ?hr ?_;
    (case hr => first | (go_simp; done) | (go_simp; rfl));
    intro gb wd7 n_;
    simp only [Act.put, List.setIfInBounds_toArray, List.set_cons_zero, List.set_cons_succ];
    clear H;
    have H := n_;
    clear n_;
    have c_b := H.out.cell (g := gb) mem0;
    have z_b := H.out.frozen (g := gb) mem0)
 | ((with_reducible refine gate_store (t := 30) (p := 13) rfl ?_);
    refine put_box (rs1 := [box gb [.slice A1 R.l.length c1, .bool R.dn, .int .i64 R.fu, .int .i64 R.fa, .int .i64 R.size, .int .u64 R.fr, .int .u64 R.nx, .bool R.br] 30, row k67 67 (.slice A1 (R.l).length c1) R.l, row k62 62 (.slice A2 (want).length c2) want]) rfl (t := 30) (p := 13) rfl rfl ?hr (H1 := (Sep.set0 (Sep.set0 (Sep.set0 (Sep.set0 (Sep.set0 (Sep.set0 (Sep.set0 (Sep.set0 H.out 0 (.slice A1 R.l.length c1) rfl) 1 (.bool R.dn) rfl) 2 (.int .i64 R.fu) rfl) 3 (.int .i64 R.fa) rfl) 4 (.int .i64 R.size) rfl) 5 (.int .u64 R.fr) rfl) 6 (.int .u64 R.nx) rfl) 7 (.bool R.br) rfl)) ?_;
    (case hr => first | (go_simp; done) | (go_simp; rfl));
    intro wd8 n_;
    clear H c_b z_b;
    have H := n_;
    clear n_;
    have c_b := H.out.cell (g := gb) mem0;
    have z_b := H.out.frozen (g := gb) mem0)
 | fail)
    refine ((disk_Crash.calls A1 c1 R.l R.dn R.fu R.fa Ak ck ks (crashF R.l ks) false (-1) (-1) 0 _ (H.out.reads mem1).2.2 (H.out.reads mem1).2.1 (H.out.came HRk.out) HCk.out (by rw [disk_Crash.f, if_pos HR.out])).mono ?_)
    rintro e wd9 ⟨v_, rfl, ho_, hb_⟩
    obtain ⟨Af, cf, eo_⟩ := Kd.R_slice ho_
    subst eo_
    have n_ : Aside0 (Sep w wd9 [row k67 67 (.slice Af ((crashF R.l ks)).length cf) ((crashF R.l ks)), box gb [.slice A1 R.l.length c1, .bool R.dn, .int .i64 R.fu, .int .i64 R.fa, .int .i64 R.size, .int .u64 R.fr, .int .u64 R.nx, .bool R.br] 30, row k67 67 (.slice A1 (R.l).length c1) R.l, row k62 62 (.slice A2 (want).length c2) want]) := ⟨Sep.push_row H.out hb_ ho_ k67_flat⟩
    clear H c_b z_b
    have H := n_
    clear n_
    have c_b := H.out.cell (g := gb) mem1
    have z_b := H.out.frozen (g := gb) mem1
    clear ho_ hb_
    go_wp2_with (first
 | ((with_reducible refine gate_dst (N := 16) rfl ?_);
    refine new_box rfl H (cs := [.slice none 0 0, .bool false, .int .i64 0, .int .i64 0]) (t := 27) ?hr ?_;
    (case hr => first | (go_simp; done) | (go_simp; rfl));
    intro gd wd10 n_;
    simp only [Act.put, List.setIfInBounds_toArray, List.set_cons_zero, List.set_cons_succ];
    clear H c_b z_b;
    have H := n_;
    clear n_;
    have c_d := H.out.cell (g := gd) mem0;
    have z_d := H.out.frozen (g := gd) mem0;
    have c_b := H.out.cell (g := gb) mem2)
 | ((with_reducible refine gate_store (t := 27) (p := 16) rfl ?_);
    refine put_box (rs1 := [box gd [.slice Af (crashF R.l ks).length cf, .bool false, .int .i64 (-1), .int .i64 (-1)] 27, row k67 67 (.slice Af ((crashF R.l ks)).length cf) ((crashF R.l ks)), box gb [.slice A1 R.l.length c1, .bool R.dn, .int .i64 R.fu, .int .i64 R.fa, .int .i64 R.size, .int .u64 R.fr, .int .u64 R.nx, .bool R.br] 30, row k67 67 (.slice A1 (R.l).length c1) R.l, row k62 62 (.slice A2 (want).length c2) want]) rfl (t := 27) (p := 16) rfl rfl ?hr (H1 := (Sep.set0 (Sep.set0 (Sep.set0 (Sep.set0 H.out 0 (.slice Af (crashF R.l ks).length cf) rfl) 1 (.bool false) rfl) 2 (.int .i64 (-1)) rfl) 3 (.int .i64 (-1)) rfl)) ?_;
    (case hr => first | (go_simp; done) | (go_simp; rfl));
    intro wd11 n_;
    clear H c_d z_d c_b;
    have H := n_;
    clear n_;
    have c_d := H.out.cell (g := gd) mem0;
    have z_d := H.out.frozen (g := gd) mem0;
    have c_b := H.out.cell (g := gb) mem2)
 | fail)
    refine ((HO.out _ _ _ (H.out.reads mem1).2.2 (H.out.reads mem1).2.1 (HG.out.below H.out.below)).mono ?_)
    rintro e wd12 ⟨A3, c3, A4, c4, rfl, HJ⟩
    have n_ : Aside0 (Sep w wd12 [row k67 67 (.slice A3 (M.l).length c3) M.l, row k62 62 (.slice A4 (got).length c4) got, box gd [.slice Af (crashF R.l ks).length cf, .bool false, .int .i64 (-1), .int .i64 (-1)] 27, row k67 67 (.slice Af ((crashF R.l ks)).length cf) ((crashF R.l ks)), box gb [.slice A1 R.l.length c1, .bool R.dn, .int .i64 R.fu, .int .i64 R.fa, .int .i64 R.size, .int .u64 R.fr, .int .u64 R.nx, .bool R.br] 30, row k67 67 (.slice A1 (R.l).length c1) R.l, row k62 62 (.slice A2 (want).length c2) want]) := ⟨sep_join H.out HJ.out⟩
    clear H c_d z_d c_b
    have H := n_
    clear n_
    have c_d := H.out.cell (g := gd) mem2
    have z_d := H.out.frozen (g := gd) mem2
    have c_b := H.out.cell (g := gb) mem4
    clear HJ
    simp only [lgc]
    clear HO
    have hlt : ¬ (got.length : Int) < (want.length : Int) := by have := HLE.out; omega
    have hlw : (0 : Int) ≤ (want.length : Int) := by omega
    have hlw2 : (want.length : Int) ≤ (c4 : Int) := by have h1 := HLE.out; have h2 := (H.out.reads mem1).2.1; omega
    go_wp2_with (first
 | ((with_reducible refine gate_dst (N := 18) rfl ?_);
    refine new_box rfl H (cs := [.slice none 0 0, .bool false, .int .i64 0, .int .i64 0, .int .i64 0, .int .u64 0, .int .u64 0, .bool false]) (t := 30) ?hr ?_;
    (case hr => first | (go_simp; done) | (go_simp; rfl));
    intro gm_ wd13 n_;
    simp only [Act.put, List.setIfInBounds_toArray, List.set_cons_zero, List.set_cons_succ];
    clear H c_d z_d c_b;
    have H := n_;
    clear n_;
    have c_m_ := H.out.cell (g := gm_) mem0;
    have z_m_ := H.out.frozen (g := gm_) mem0;
    have c_d := H.out.cell (g := gd) mem3;
    have c_b := H.out.cell (g := gb) mem5)
 | ((with_reducible refine gate_store (t := 30) (p := 18) rfl ?_);
    refine put_box (rs1 := [box gm_ [.slice A3 M.l.length c3, .bool M.dn, .int .i64 M.fu, .int .i64 M.fa, .int .i64 M.size, .int .u64 M.fr, .int .u64 M.nx, .bool M.br] 30, row k67 67 (.slice A3 (M.l).length c3) M.l, row k62 62 (.slice A4 (got).length c4) got, box gd [.slice Af (crashF R.l ks).length cf, .bool false, .int .i64 (-1), .int .i64 (-1)] 27, row k67 67 (.slice Af ((crashF R.l ks)).length cf) ((crashF R.l ks)), box gb [.slice A1 R.l.length c1, .bool R.dn, .int .i64 R.fu, .int .i64 R.fa, .int .i64 R.size, .int .u64 R.fr, .int .u64 R.nx, .bool R.br] 30, row k67 67 (.slice A1 (R.l).length c1) R.l, row k62 62 (.slice A2 (want).length c2) want]) rfl (t := 30) (p := 18) rfl rfl ?hr (H1 := (Sep.set0 (Sep.set0 (Sep.set0 (Sep.set0 (Sep.set0 (Sep.set0 (Sep.set0 (Sep.set0 H.out 0 (.slice A3 M.l.length c3) rfl) 1 (.bool M.dn) rfl) 2 (.int .i64 M.fu) rfl) 3 (.int .i64 M.fa) rfl) 4 (.int .i64 M.size) rfl) 5 (.int .u64 M.fr) rfl) 6 (.int .u64 M.nx) rfl) 7 (.bool M.br) rfl)) ?_;
    (case hr => first | (go_simp; done) | (go_simp; rfl));
    intro wd14 n_;
    clear H c_m_ z_m_ c_d c_b;
    have H := n_;
    clear n_;
    have c_m_ := H.out.cell (g := gm_) mem0;
    have z_m_ := H.out.frozen (g := gm_) mem0;
    have c_d := H.out.cell (g := gd) mem3;
    have c_b := H.out.cell (g := gb) mem5)
 | fail)
    refine ((penstockref10_SameRecords.calls (want.length + 1) A4 c4 want A2 c2 want true _ (C62_pre (by have h := (H.out.reads (A := A4) mem2).2.2; rw [HGT.out] at h; exact h)) (by have h1 := HLE.out; have h2 := (H.out.reads (A := A4) mem2).2.1; omega) (H.out.reads mem7).2.2 (H.out.reads mem7).2.1 HSR.out).mono ?_)
    rintro e wd15 ⟨rfl, hb_⟩
    have n_ : Aside0 (Sep w wd15 [box gm_ [.slice A3 M.l.length c3, .bool M.dn, .int .i64 M.fu, .int .i64 M.fa, .int .i64 M.size, .int .u64 M.fr, .int .u64 M.nx, .bool M.br] 30, row k67 67 (.slice A3 (M.l).length c3) M.l, row k62 62 (.slice A4 (got).length c4) got, box gd [.slice Af (crashF R.l ks).length cf, .bool false, .int .i64 (-1), .int .i64 (-1)] 27, row k67 67 (.slice Af ((crashF R.l ks)).length cf) ((crashF R.l ks)), box gb [.slice A1 R.l.length c1, .bool R.dn, .int .i64 R.fu, .int .i64 R.fa, .int .i64 R.size, .int .u64 R.fr, .int .u64 R.nx, .bool R.br] 30, row k67 67 (.slice A1 (R.l).length c1) R.l, row k62 62 (.slice A2 (want).length c2) want]) := ⟨H.out.step (Drawn0.below hb_)⟩
    clear H c_m_ z_m_ c_d c_b
    have H := n_
    clear n_
    have c_m_ := H.out.cell (g := gm_) mem0
    have z_m_ := H.out.frozen (g := gm_) mem0
    have c_d := H.out.cell (g := gd) mem3
    have c_b := H.out.cell (g := gb) mem5
    clear hb_
    go_wp2_with fail
    refine ((segment_Check.calls A3 c3 M.l M.dn M.fu M.fa M.size M.fr M.nx M.br 0 _ (H.out.reads mem1).2.2 (H.out.reads mem1).2.1 HCK.out).mono ?_)
    rintro e wd16 ⟨rfl, hb_⟩
    have n_ : Aside0 (Sep w wd16 [box gm_ [.slice A3 M.l.length c3, .bool M.dn, .int .i64 M.fu, .int .i64 M.fa, .int .i64 M.size, .int .u64 M.fr, .int .u64 M.nx, .bool M.br] 30, row k67 67 (.slice A3 (M.l).length c3) M.l, row k62 62 (.slice A4 (got).length c4) got, box gd [.slice Af (crashF R.l ks).length cf, .bool false, .int .i64 (-1), .int .i64 (-1)] 27, row k67 67 (.slice Af ((crashF R.l ks)).length cf) ((crashF R.l ks)), box gb [.slice A1 R.l.length c1, .bool R.dn, .int .i64 R.fu, .int .i64 R.fa, .int .i64 R.size, .int .u64 R.fr, .int .u64 R.nx, .bool R.br] 30, row k67 67 (.slice A1 (R.l).length c1) R.l, row k62 62 (.slice A2 (want).length c2) want]) := ⟨H.out.step hb_⟩
    clear H c_m_ z_m_ c_d c_b
    have H := n_
    clear n_
    have c_m_ := H.out.cell (g := gm_) mem0
    have z_m_ := H.out.frozen (g := gm_) mem0
    have c_d := H.out.cell (g := gd) mem3
    have c_b := H.out.cell (g := gb) mem5
    clear hb_
    go_upto_if 83 with fail
    go_cut [] (fun wx => Aside0 (Sep w wx [box gm_ [.slice A3 M.l.length c3, .bool M.dn, .int .i64 M.fu, .int .i64 M.fa, .int .i64 M.size, .int .u64 M.fr, .int .u64 M.nx, .bool M.br] 30, row k67 67 (.slice A3 (M.l).length c3) M.l, row k62 62 (.slice A4 (got).length c4) got, box gd [.slice Af (crashF R.l ks).length cf, .bool false, .int .i64 (-1), .int .i64 (-1)] 27, row k67 67 (.slice Af ((crashF R.l ks)).length cf) ((crashF R.l ks)), box gb [.slice A1 R.l.length c1, .bool R.dn, .int .i64 R.fu, .int .i64 R.fa, .int .i64 R.size, .int .u64 R.fr, .int .u64 R.nx, .bool R.br] 30, row k67 67 (.slice A1 (R.l).length c1) R.l, row k62 62 (.slice A2 (want).length c2) want]))
    case first =>
      go_wp2_with fail
      go_meet
      exact H
    case rest =>
      have n_ := hcut
      clear hcut
      clear H c_m_ z_m_ c_d c_b
      have H := n_
      clear n_
      have c_m_ := H.out.cell (g := gm_) mem0
      have z_m_ := H.out.frozen (g := gm_) mem0
      have c_d := H.out.cell (g := gd) mem3
      have c_b := H.out.cell (g := gb) mem5
      rename_i hK_
      refine hK_ _ _ ?_
      clear hK_
      go_wp2_with fail
      go_loopw [12, 21, 22, 86] (fun v12 v21 v22 v86 wr => ∃ i : Nat, v86 = .int .i64 (i : Int) ∧ i ≤ got.length ∧ Aside0 (Sep w wr [box gm_ [.slice A3 M.l.length c3, .bool M.dn, .int .i64 M.fu, .int .i64 M.fa, .int .i64 M.size, .int .u64 M.fr, .int .u64 M.nx, .bool M.br] 30, row k67 67 (.slice A3 (M.l).length c3) M.l, row k62 62 (.slice A4 (got).length c4) got, box gd [.slice Af (crashF R.l ks).length cf, .bool false, .int .i64 (-1), .int .i64 (-1)] 27, row k67 67 (.slice Af ((crashF R.l ks)).length cf) ((crashF R.l ks)), box gb [.slice A1 R.l.length c1, .bool R.dn, .int .i64 R.fu, .int .i64 R.fa, .int .i64 R.size, .int .u64 R.fr, .int .u64 R.nx, .bool R.br] 30, row k67 67 (.slice A1 (R.l).length c1) R.l, row k62 62 (.slice A2 (want).length c2) want])) (fun _ _ _ v86 _ => got.length - (intOf v86).toNat)
      case atStart => exact ⟨0, rfl, Nat.zero_le _, H⟩
      case round =>
        clear H c_m_ z_m_ c_d c_b
        obtain ⟨i, rfl, hi, H⟩ := hrel
        have c_m_ := H.out.cell (g := gm_) mem0
        have c_d := H.out.cell (g := gd) mem3
        have c_b := H.out.cell (g := gb) mem5
        by_cases hil : i < got.length
        ·
          obtain ⟨x, hx⟩ : ∃ x, got[i]? = some x := ⟨_, List.getElem?_eq_getElem hil⟩
          obtain ⟨ar, e1⟩ := row62 (H.out.reads (A := A4) mem2).2.2 (by omega)
          subst e1
          obtain ⟨q0, q1⟩ := at62 (H.out.reads (A := some ar) mem2).2.2 hx
          have hxf : x.f0 = (i : Int) + 1 := by rw [HGET.out i x hx]; omega
          have hil2 : (i : Int) < (got.length : Int) := by omega
          have hi0 : (0 : Int) ≤ (i : Int) := by omega
          have hw1 : IntKind.u64.wrap (i : Int) = (i : Int) := by
            have := HLE.out
            rw [IntKind.wrap_u64]
            omega
          have hw2 : IntKind.u64.wrap ((i : Int) + 1) = (i : Int) + 1 := by
            have := HLE.out
            rw [IntKind.wrap_u64]
            omega
          have hbn : (x.f0 != (i : Int) + 1) = false := by rw [hxf]; simp
          have hw3 : wrap64 ((i : Int) + 1) = ((i + 1 : Nat) : Int) := by
            have := HLE.out
            unfold wrap64
            omega
          clear hx hxf
          go_wp2_with (first
 | ((with_reducible refine gate_dst (N := 22) rfl ?_);
    refine new_box rfl H (cs := [.int .u64 0, .string ⟨#[]⟩]) (t := 62) ?hr ?_;
    (case hr => first | (go_simp; done) | (go_simp; rfl));
    intro gx wd17 n_;
    simp only [Act.put, List.setIfInBounds_toArray, List.set_cons_zero, List.set_cons_succ];
    clear H c_m_ c_d c_b;
    have H := n_;
    clear n_;
    have c_x := H.out.cell (g := gx) mem0;
    have z_x := H.out.frozen (g := gx) mem0;
    have c_m_ := H.out.cell (g := gm_) mem1;
    have c_d := H.out.cell (g := gd) mem4;
    have c_b := H.out.cell (g := gb) mem6)
 | ((with_reducible refine gate_store (t := 62) (p := 22) rfl ?_);
    refine put_box (rs1 := [box gx [.int .u64 x.f0, .string x.f1] 62, box gm_ [.slice A3 M.l.length c3, .bool M.dn, .int .i64 M.fu, .int .i64 M.fa, .int .i64 M.size, .int .u64 M.fr, .int .u64 M.nx, .bool M.br] 30, row k67 67 (.slice A3 (M.l).length c3) M.l, row k62 62 (.slice (some ar) (got).length c4) got, box gd [.slice Af (crashF R.l ks).length cf, .bool false, .int .i64 (-1), .int .i64 (-1)] 27, row k67 67 (.slice Af ((crashF R.l ks)).length cf) ((crashF R.l ks)), box gb [.slice A1 R.l.length c1, .bool R.dn, .int .i64 R.fu, .int .i64 R.fa, .int .i64 R.size, .int .u64 R.fr, .int .u64 R.nx, .bool R.br] 30, row k67 67 (.slice A1 (R.l).length c1) R.l, row k62 62 (.slice A2 (want).length c2) want]) rfl (t := 62) (p := 22) rfl rfl ?hr (H1 := (Sep.set0 (Sep.set0 H.out 0 (.int .u64 x.f0) rfl) 1 (.string x.f1) rfl)) ?_;
    (case hr => first | (go_simp; done) | (go_simp; rfl));
    intro wd18 n_;
    clear H c_x z_x c_m_ c_d c_b;
    have H := n_;
    clear n_;
    have c_x := H.out.cell (g := gx) mem0;
    have z_x := H.out.frozen (g := gx) mem0;
    have c_m_ := H.out.cell (g := gm_) mem1;
    have c_d := H.out.cell (g := gd) mem4;
    have c_b := H.out.cell (g := gb) mem6;
    clear q0 q1)
 | fail)
          try rw [hw3]
          exact ⟨⟨i + 1, rfl, by omega, ⟨(Sep.drop0 H.out)⟩⟩, by simp [intOf]; omega⟩
        ·
          have hie : i = got.length := by omega
          subst hie
          have hw1 : IntKind.u64.wrap (got.length : Int) = (got.length : Int) := by
            have := HLE.out
            rw [IntKind.wrap_u64]
            omega
          have hw2 : IntKind.u64.wrap ((got.length : Int) + 1) = (got.length : Int) + 1 := by
            have := HLE.out
            rw [IntKind.wrap_u64]
            omega
          have hbe : (M.nx == (got.length : Int) + 1) = true := by rw [HNX.out.1]; simp
          have hbf : (M.fr == 1) = true := by rw [HNX.out.2]; rfl
          go_wp2_with fail
          go_ret
          refine ⟨?_, H.out.below⟩
          first | rfl | simp [hbe, hbf] | simp [hw1, hw2, hbe, hbf]
end Go.Proofs.YtanonhipicoigaaGreatDoor.U
