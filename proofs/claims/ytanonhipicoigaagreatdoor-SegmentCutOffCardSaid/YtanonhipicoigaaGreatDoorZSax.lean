import Derived.BigRegion
import Derived.LoopN
import Derived.Deep.DeepCutAuto
import Derived.Test.YtanonhipicoigaaGreatDoorZSag
namespace Go.Proofs.YtanonhipicoigaaGreatDoor.U
open Go.RowKit Go.Proofs.YtanonhipicoigaaGreatDoorW.PrintWords Go.Proofs.YtanonhipicoigaaGreatDoorW.PrintLast Go.Proofs.YtanonhipicoigaaGreatDoorW.PrintMore Go.Proofs.YtanonhipicoigaaGreatDoor.Sp Go.Proofs.YtanonhipicoigaaGreatDoor.SegP
set_option linter.unusedVariables false
set_option linter.unusedSimpArgs false
/-- What SegmentCutOff asks for. -/
theorem cutoff_plain {l : List S67} {size : Int} (hr : rightF l = true) (ks : List Int) (h0 : 1 ≤ size) (h1 : size ≤ 262144) (fu : Int) :
    rightF (crashF l ks) = true ∧ ∃ M rs, openF (crashF l ks) false (-1) (-1) size = (M, rs, 0) ∧ M.l.length ≤ 64 ∧ rs.length ≤ 1048576 ∧
      ((∃ R rs', openF (crashF l ks) false fu (-1) size = (R, rs', 0)) ∨ ∃ R, openF (crashF l ks) false fu (-1) size = (R, [], 17) ∧ rightF R.l = true ∧ crashF R.l [] = R.l ∧ openF R.l false (-1) (-1) size = (M, rs, 0)) := by
  have hr2 := crash_right hr ks
  have hs2 := sy_crash hr ks
  have ho := open_fine hr2 h0 h1
  have hw := open_fine_wf hr2 h0 h1
  refine ⟨hr2, _, _, ho, right_len hw.right, by rw [recR_length]; exact hw.few, ?_⟩
  rcases open_came fu hr2 h0 h1 with ⟨fu', h, _⟩ | ⟨_, g1, g2, R, e1, e2, e3, _⟩
  · exact .inl ⟨_, _, h⟩
  · obtain ⟨k1, k2, k3⟩ := open_cut hr2 hs2 h0 h1 e1
    rw [← e3] at k1 k2 k3
    exact .inr ⟨R, e2, k1, crash_sy k2 [], by rw [k3, ho]⟩
theorem open_bad2 {l : List S67} {fu fa size : Int} (hr : rightF l = true) (h : size < 1 ∨ 262144 < size) : openF l false fu fa size = (Lz, [], 2) := by
  rw [openF, if_pos hr, if_pos h]
set_option maxHeartbeats 8000000 in
set_option maxRecDepth 100000 in
theorem cutoff_any (A : Option Addr) (c : Nat) (l : List S67) (dn : Bool) (fu0 fa size fu : Int) (Ak : Option Addr) (ck : Nat) (ks : List Int) (w : World) (hr : Kd.C k67 w A l.length l) (hc : l.length ≤ c) (hrk : Kd.C (Kd.int .i64) w Ak ks.length ks) (hck : ks.length ≤ ck) (hG : Gl w) :
    Calls Tryz.prog 8 #[.agg #[.slice A l.length c, .bool dn, .int .i64 fu0, .int .i64 fa], .int .i64 size, .int .i64 fu, .slice Ak ks.length ck] w fun e w' => e = .returned (.bool true) ∧ Below w.heap.size w w' := by
  have HRp := Aside0.mk hr
  have HCp := Aside0.mk hc
  have HRk := Aside0.mk hrk
  have HCk := Aside0.mk hck
  have HG := Aside0.mk hG
  clear hr hc hrk hck hG
  have H := Aside0.mk (Sep.start w)
  go_enter Tryz.func8, Tryz.ntmps8
  go_wp2_with (first
 | ((with_reducible refine gate_dst (N := 4) rfl ?_);
    refine new_box rfl H (cs := [.slice A l.length c, .bool dn, .int .i64 fu0, .int .i64 fa]) (t := 27) ?hr ?_;
    (case hr => first | (go_simp; done) | (go_simp; rfl));
    intro gp wd1 n_;
    simp only [Act.put, List.setIfInBounds_toArray, List.set_cons_zero, List.set_cons_succ];
    clear H;
    have H := n_;
    clear n_;
    have c_p := H.out.cell (g := gp) mem0)
 | fail)
  refine ((lives_any _ (HG.out.below H.out.below)).mono ?_)
  rintro e wd2 ⟨rfl, hb_⟩
  have n_ : Aside0 (Sep w wd2 [box gp [.slice A l.length c, .bool dn, .int .i64 fu0, .int .i64 fa] 27]) := ⟨H.out.step hb_⟩
  clear H c_p
  have H := n_
  clear n_
  have c_p := H.out.cell (g := gp) mem0
  clear hb_
  go_wp2_with fail
  by_cases hok : rightF l = true
  ·
    have HOK := Aside0.mk hok
    clear hok
    refine ((disk_Crash.calls A c l dn fu0 fa Ak ck ks (crashF l ks) false (-1) (-1) 0 _ (H.out.came HRp.out) HCp.out (H.out.came HRk.out) HCk.out (by rw [disk_Crash.f, if_pos HOK.out])).mono ?_)
    rintro e wd3 ⟨v_, rfl, ho_, hb_⟩
    obtain ⟨Af, cf, eo_⟩ := Kd.R_slice ho_
    subst eo_
    have n_ : Aside0 (Sep w wd3 [row k67 67 (.slice Af ((crashF l ks)).length cf) ((crashF l ks)), box gp [.slice A l.length c, .bool dn, .int .i64 fu0, .int .i64 fa] 27]) := ⟨Sep.push_row H.out hb_ ho_ k67_flat⟩
    clear H c_p
    have H := n_
    clear n_
    have c_p := H.out.cell (g := gp) mem1
    clear ho_ hb_
    by_cases hsz : size < 1 ∨ 262144 < size
    ·
      have HO1 := Aside0.mk (fun A c w hr hc hG => open_any A c (crashF l ks) false (-1) (-1) size w hr hc hG)
      have HO2 := Aside0.mk (fun A c w hr hc hG => open_any A c (crashF l ks) false fu (-1) size w hr hc hG)
      rw [open_bad2 (crash_right HOK.out ks) hsz] at HO1 HO2
      dsimp only at HO1 HO2
      clear hsz
      go_wp2_with (first
 | ((with_reducible refine gate_dst (N := 9) rfl ?_);
    refine new_box rfl H (cs := [.slice none 0 0, .bool false, .int .i64 0, .int .i64 0]) (t := 27) ?hr ?_;
    (case hr => first | (go_simp; done) | (go_simp; rfl));
    intro gs wd4 n_;
    simp only [Act.put, List.setIfInBounds_toArray, List.set_cons_zero, List.set_cons_succ];
    clear H c_p;
    have H := n_;
    clear n_;
    have c_s := H.out.cell (g := gs) mem0;
    have z_s := H.out.frozen (g := gs) mem0;
    have c_p := H.out.cell (g := gp) mem2)
 | ((with_reducible refine gate_store (t := 27) (p := 9) rfl ?_);
    refine put_box (rs1 := [box gs [.slice Af (crashF l ks).length cf, .bool false, .int .i64 (-1), .int .i64 (-1)] 27, row k67 67 (.slice Af ((crashF l ks)).length cf) ((crashF l ks)), box gp [.slice A l.length c, .bool dn, .int .i64 fu0, .int .i64 fa] 27]) rfl (t := 27) (p := 9) rfl rfl ?hr (H1 := (Sep.set0 (Sep.set0 (Sep.set0 (Sep.set0 H.out 0 (.slice Af (crashF l ks).length cf) rfl) 1 (.bool false) rfl) 2 (.int .i64 (-1)) rfl) 3 (.int .i64 (-1)) rfl)) ?_;
    (case hr => first | (go_simp; done) | (go_simp; rfl));
    intro wd5 n_;
    clear H c_s z_s c_p;
    have H := n_;
    clear n_;
    have c_s := H.out.cell (g := gs) mem0;
    have z_s := H.out.frozen (g := gs) mem0;
    have c_p := H.out.cell (g := gp) mem2)
 | fail)
      refine ((HO1.out _ _ _ (H.out.reads mem1).2.2 (H.out.reads mem1).2.1 (HG.out.below H.out.below)).mono ?_)
      rintro e wd6 ⟨A1, c1, A2, c2, rfl, HJ⟩
      have n_ : Aside0 (Sep w wd6 [row k67 67 (.slice A1 (Lz.l).length c1) Lz.l, row k62 62 (.slice A2 (([] : List S62)).length c2) (([] : List S62)), box gs [.slice Af (crashF l ks).length cf, .bool false, .int .i64 (-1), .int .i64 (-1)] 27, row k67 67 (.slice Af ((crashF l ks)).length cf) ((crashF l ks)), box gp [.slice A l.length c, .bool dn, .int .i64 fu0, .int .i64 fa] 27]) := ⟨sep_join H.out HJ.out⟩
      clear H c_s z_s c_p
      have H := n_
      clear n_
      have c_s := H.out.cell (g := gs) mem2
      have z_s := H.out.frozen (g := gs) mem2
      have c_p := H.out.cell (g := gp) mem4
      clear HJ
      simp only [lgc, Lz, List.length_nil]
      clear HO1
      go_wp2_with (first
 | ((with_reducible refine gate_dst (N := 11) rfl ?_);
    refine new_box rfl H (cs := [.slice none 0 0, .bool false, .int .i64 0, .int .i64 0, .int .i64 0, .int .u64 0, .int .u64 0, .bool false]) (t := 30) ?hr ?_;
    (case hr => first | (go_simp; done) | (go_simp; rfl));
    intro ga wd7 n_;
    simp only [Act.put, List.setIfInBounds_toArray, List.set_cons_zero, List.set_cons_succ];
    clear H c_s z_s c_p;
    have H := n_;
    clear n_;
    have c_a := H.out.cell (g := ga) mem0;
    have z_a := H.out.frozen (g := ga) mem0;
    have c_s := H.out.cell (g := gs) mem3;
    have c_p := H.out.cell (g := gp) mem5)
 | ((with_reducible refine gate_store (t := 30) (p := 11) rfl ?_);
    refine put_box (rs1 := [box ga [.slice A1 0 c1, .bool false, .int .i64 0, .int .i64 0, .int .i64 0, .int .u64 0, .int .u64 0, .bool false] 30, row k67 67 (.slice A1 (Lz.l).length c1) Lz.l, row k62 62 (.slice A2 (([] : List S62)).length c2) (([] : List S62)), box gs [.slice Af (crashF l ks).length cf, .bool false, .int .i64 (-1), .int .i64 (-1)] 27, row k67 67 (.slice Af ((crashF l ks)).length cf) ((crashF l ks)), box gp [.slice A l.length c, .bool dn, .int .i64 fu0, .int .i64 fa] 27]) rfl (t := 30) (p := 11) rfl rfl ?hr (H1 := (Sep.set0 (Sep.set0 (Sep.set0 (Sep.set0 (Sep.set0 (Sep.set0 (Sep.set0 (Sep.set0 H.out 0 (.slice A1 0 c1) rfl) 1 (.bool false) rfl) 2 (.int .i64 0) rfl) 3 (.int .i64 0) rfl) 4 (.int .i64 0) rfl) 5 (.int .u64 0) rfl) 6 (.int .u64 0) rfl) 7 (.bool false) rfl)) ?_;
    (case hr => first | (go_simp; done) | (go_simp; rfl));
    intro wd8 n_;
    clear H c_a z_a c_s c_p;
    have H := n_;
    clear n_;
    have c_a := H.out.cell (g := ga) mem0;
    have z_a := H.out.frozen (g := ga) mem0;
    have c_s := H.out.cell (g := gs) mem3;
    have c_p := H.out.cell (g := gp) mem5)
 | ((with_reducible refine gate_dst (N := 14) rfl ?_);
    refine new_box rfl H (cs := [.slice none 0 0, .bool false, .int .i64 0, .int .i64 0]) (t := 27) ?hr ?_;
    (case hr => first | (go_simp; done) | (go_simp; rfl));
    intro gb wd9 n_;
    simp only [Act.put, List.setIfInBounds_toArray, List.set_cons_zero, List.set_cons_succ];
    clear H c_a z_a c_s c_p;
    have H := n_;
    clear n_;
    have c_b := H.out.cell (g := gb) mem0;
    have z_b := H.out.frozen (g := gb) mem0;
    have c_a := H.out.cell (g := ga) mem1;
    have z_a := H.out.frozen (g := ga) mem1;
    have c_s := H.out.cell (g := gs) mem4;
    have c_p := H.out.cell (g := gp) mem6)
 | ((with_reducible refine gate_store (t := 27) (p := 14) rfl ?_);
    refine put_box (rs1 := [box gb [.slice Af (crashF l ks).length cf, .bool false, .int .i64 (-1), .int .i64 (-1)] 27, box ga [.slice A1 0 c1, .bool false, .int .i64 0, .int .i64 0, .int .i64 0, .int .u64 0, .int .u64 0, .bool false] 30, row k67 67 (.slice A1 (Lz.l).length c1) Lz.l, row k62 62 (.slice A2 (([] : List S62)).length c2) (([] : List S62)), box gs [.slice Af (crashF l ks).length cf, .bool false, .int .i64 (-1), .int .i64 (-1)] 27, row k67 67 (.slice Af ((crashF l ks)).length cf) ((crashF l ks)), box gp [.slice A l.length c, .bool dn, .int .i64 fu0, .int .i64 fa] 27]) rfl (t := 27) (p := 14) rfl rfl ?hr (H1 := (Sep.set0 (Sep.set0 (Sep.set0 (Sep.set0 H.out 0 (.slice Af (crashF l ks).length cf) rfl) 1 (.bool false) rfl) 2 (.int .i64 (-1)) rfl) 3 (.int .i64 (-1)) rfl)) ?_;
    (case hr => first | (go_simp; done) | (go_simp; rfl));
    intro wd10 n_;
    clear H c_b z_b c_a z_a c_s c_p;
    have H := n_;
    clear n_;
    have c_b := H.out.cell (g := gb) mem0;
    have z_b := H.out.frozen (g := gb) mem0;
    have c_a := H.out.cell (g := ga) mem1;
    have z_a := H.out.frozen (g := ga) mem1;
    have c_s := H.out.cell (g := gs) mem4;
    have c_p := H.out.cell (g := gp) mem6)
 | ((with_reducible refine gate_store (t := 3) (p := 42) rfl ?_);
    refine put_box (rs1 := [box gb [.slice Af (crashF l ks).length cf, .bool false, .int .i64 fu, .int .i64 (-1)] 27, box ga [.slice A1 0 c1, .bool false, .int .i64 0, .int .i64 0, .int .i64 0, .int .u64 0, .int .u64 0, .bool false] 30, row k67 67 (.slice A1 (Lz.l).length c1) Lz.l, row k62 62 (.slice A2 (([] : List S62)).length c2) (([] : List S62)), box gs [.slice Af (crashF l ks).length cf, .bool false, .int .i64 (-1), .int .i64 (-1)] 27, row k67 67 (.slice Af ((crashF l ks)).length cf) ((crashF l ks)), box gp [.slice A l.length c, .bool dn, .int .i64 fu0, .int .i64 fa] 27]) rfl (t := 3) (p := 42) rfl rfl ?hr (H1 := (Sep.set0 H.out 2 (.int .i64 fu) rfl)) ?_;
    (case hr => first | (go_simp; done) | (go_simp; rfl));
    intro wd11 n_;
    clear H c_b z_b c_a z_a c_s c_p;
    have H := n_;
    clear n_;
    have c_b := H.out.cell (g := gb) mem0;
    have z_b := H.out.frozen (g := gb) mem0;
    have c_a := H.out.cell (g := ga) mem1;
    have z_a := H.out.frozen (g := ga) mem1;
    have c_s := H.out.cell (g := gs) mem4;
    have c_p := H.out.cell (g := gp) mem6)
 | fail)
      refine ((HO2.out _ _ _ (H.out.reads mem5).2.2 (H.out.reads mem5).2.1 (HG.out.below H.out.below)).mono ?_)
      rintro e wd12 ⟨A3, c3, A4, c4, rfl, HJ⟩
      have n_ : Aside0 (Sep w wd12 [row k67 67 (.slice A3 (Lz.l).length c3) Lz.l, row k62 62 (.slice A4 (([] : List S62)).length c4) (([] : List S62)), box gb [.slice Af (crashF l ks).length cf, .bool false, .int .i64 fu, .int .i64 (-1)] 27, box ga [.slice A1 0 c1, .bool false, .int .i64 0, .int .i64 0, .int .i64 0, .int .u64 0, .int .u64 0, .bool false] 30, row k67 67 (.slice A1 (Lz.l).length c1) Lz.l, row k62 62 (.slice A2 (([] : List S62)).length c2) (([] : List S62)), box gs [.slice Af (crashF l ks).length cf, .bool false, .int .i64 (-1), .int .i64 (-1)] 27, row k67 67 (.slice Af ((crashF l ks)).length cf) ((crashF l ks)), box gp [.slice A l.length c, .bool dn, .int .i64 fu0, .int .i64 fa] 27]) := ⟨sep_join H.out HJ.out⟩
      clear H c_b z_b c_a z_a c_s c_p
      have H := n_
      clear n_
      have c_b := H.out.cell (g := gb) mem2
      have z_b := H.out.frozen (g := gb) mem2
      have c_a := H.out.cell (g := ga) mem3
      have z_a := H.out.frozen (g := ga) mem3
      have c_s := H.out.cell (g := gs) mem6
      have c_p := H.out.cell (g := gp) mem8
      clear HJ
      simp only [lgc, Lz, List.length_nil]
      clear HO2
      go_wp2_with (first
 | ((with_reducible refine gate_dst (N := 15) rfl ?_);
    refine new_box rfl H (cs := [.slice none 0 0, .bool false, .int .i64 0, .int .i64 0, .int .i64 0, .int .u64 0, .int .u64 0, .bool false]) (t := 30) ?hr ?_;
    (case hr => first | (go_simp; done) | (go_simp; rfl));
    intro ge wd13 n_;
    simp only [Act.put, List.setIfInBounds_toArray, List.set_cons_zero, List.set_cons_succ];
    clear H c_b z_b c_a z_a c_s c_p;
    have H := n_;
    clear n_;
    have c_e := H.out.cell (g := ge) mem0;
    have z_e := H.out.frozen (g := ge) mem0;
    have c_b := H.out.cell (g := gb) mem3;
    have c_a := H.out.cell (g := ga) mem4;
    have c_s := H.out.cell (g := gs) mem7;
    have c_p := H.out.cell (g := gp) mem9)
 | ((with_reducible refine gate_store (t := 30) (p := 15) rfl ?_);
    refine put_box (rs1 := [box ge [.slice A3 0 c3, .bool false, .int .i64 0, .int .i64 0, .int .i64 0, .int .u64 0, .int .u64 0, .bool false] 30, row k67 67 (.slice A3 (Lz.l).length c3) Lz.l, row k62 62 (.slice A4 (([] : List S62)).length c4) (([] : List S62)), box gb [.slice Af (crashF l ks).length cf, .bool false, .int .i64 fu, .int .i64 (-1)] 27, box ga [.slice A1 0 c1, .bool false, .int .i64 0, .int .i64 0, .int .i64 0, .int .u64 0, .int .u64 0, .bool false] 30, row k67 67 (.slice A1 (Lz.l).length c1) Lz.l, row k62 62 (.slice A2 (([] : List S62)).length c2) (([] : List S62)), box gs [.slice Af (crashF l ks).length cf, .bool false, .int .i64 (-1), .int .i64 (-1)] 27, row k67 67 (.slice Af ((crashF l ks)).length cf) ((crashF l ks)), box gp [.slice A l.length c, .bool dn, .int .i64 fu0, .int .i64 fa] 27]) rfl (t := 30) (p := 15) rfl rfl ?hr (H1 := (Sep.set0 (Sep.set0 (Sep.set0 (Sep.set0 (Sep.set0 (Sep.set0 (Sep.set0 (Sep.set0 H.out 0 (.slice A3 0 c3) rfl) 1 (.bool false) rfl) 2 (.int .i64 0) rfl) 3 (.int .i64 0) rfl) 4 (.int .i64 0) rfl) 5 (.int .u64 0) rfl) 6 (.int .u64 0) rfl) 7 (.bool false) rfl)) ?_;
    (case hr => first | (go_simp; done) | (go_simp; rfl));
    intro wd14 n_;
    clear H c_e z_e c_b c_a c_s c_p;
    have H := n_;
    clear n_;
    have c_e := H.out.cell (g := ge) mem0;
    have z_e := H.out.frozen (g := ge) mem0;
    have c_b := H.out.cell (g := gb) mem3;
    have c_a := H.out.cell (g := ga) mem4;
    have c_s := H.out.cell (g := gs) mem7;
    have c_p := H.out.cell (g := gp) mem9)
 | fail)
      go_ret
      exact ⟨rfl, H.out.below⟩
    ·
      obtain ⟨hR, M, rs, hO, hm, hrs, hh⟩ := cutoff_plain HOK.out ks (size := size) (by omega) (by omega) fu
      have HO1 := Aside0.mk (fun A c w hr hc hG => open_any A c (crashF l ks) false (-1) (-1) size w hr hc hG)
      have HO2 := Aside0.mk (fun A c w hr hc hG => open_any A c (crashF l ks) false fu (-1) size w hr hc hG)
      have HSM := Aside0.mk (same10_refl M hm)
      have HSR := Aside0.mk (samerec_refl rs (by omega))
      rw [hO] at HO1
      clear hR hO hm hrs hsz
      rcases hh with ⟨R, rs', hh⟩ | ⟨R, hh, k1, k2, k3⟩
      ·
        rw [hh] at HO2
        dsimp only at HO1 HO2
        clear hh
        go_wp2_with (first
 | ((with_reducible refine gate_dst (N := 9) rfl ?_);
    refine new_box rfl H (cs := [.slice none 0 0, .bool false, .int .i64 0, .int .i64 0]) (t := 27) ?hr ?_;
    (case hr => first | (go_simp; done) | (go_simp; rfl));
    intro gs wd15 n_;
    simp only [Act.put, List.setIfInBounds_toArray, List.set_cons_zero, List.set_cons_succ];
    clear H c_p;
    have H := n_;
    clear n_;
    have c_s := H.out.cell (g := gs) mem0;
    have z_s := H.out.frozen (g := gs) mem0;
    have c_p := H.out.cell (g := gp) mem2)
 | ((with_reducible refine gate_store (t := 27) (p := 9) rfl ?_);
    refine put_box (rs1 := [box gs [.slice Af (crashF l ks).length cf, .bool false, .int .i64 (-1), .int .i64 (-1)] 27, row k67 67 (.slice Af ((crashF l ks)).length cf) ((crashF l ks)), box gp [.slice A l.length c, .bool dn, .int .i64 fu0, .int .i64 fa] 27]) rfl (t := 27) (p := 9) rfl rfl ?hr (H1 := (Sep.set0 (Sep.set0 (Sep.set0 (Sep.set0 H.out 0 (.slice Af (crashF l ks).length cf) rfl) 1 (.bool false) rfl) 2 (.int .i64 (-1)) rfl) 3 (.int .i64 (-1)) rfl)) ?_;
    (case hr => first | (go_simp; done) | (go_simp; rfl));
    intro wd16 n_;
    clear H c_s z_s c_p;
    have H := n_;
    clear n_;
    have c_s := H.out.cell (g := gs) mem0;
    have z_s := H.out.frozen (g := gs) mem0;
    have c_p := H.out.cell (g := gp) mem2)
 | fail)
        refine ((HO1.out _ _ _ (H.out.reads mem1).2.2 (H.out.reads mem1).2.1 (HG.out.below H.out.below)).mono ?_)
        rintro e wd17 ⟨A1, c1, A2, c2, rfl, HJ⟩
        have n_ : Aside0 (Sep w wd17 [row k67 67 (.slice A1 (M.l).length c1) M.l, row k62 62 (.slice A2 (rs).length c2) rs, box gs [.slice Af (crashF l ks).length cf, .bool false, .int .i64 (-1), .int .i64 (-1)] 27, row k67 67 (.slice Af ((crashF l ks)).length cf) ((crashF l ks)), box gp [.slice A l.length c, .bool dn, .int .i64 fu0, .int .i64 fa] 27]) := ⟨sep_join H.out HJ.out⟩
        clear H c_s z_s c_p
        have H := n_
        clear n_
        have c_s := H.out.cell (g := gs) mem2
        have z_s := H.out.frozen (g := gs) mem2
        have c_p := H.out.cell (g := gp) mem4
        clear HJ
        simp only [lgc]
        clear HO1
        go_wp2_with (first
 | ((with_reducible refine gate_dst (N := 11) rfl ?_);
    refine new_box rfl H (cs := [.slice none 0 0, .bool false, .int .i64 0, .int .i64 0, .int .i64 0, .int .u64 0, .int .u64 0, .bool false]) (t := 30) ?hr ?_;
    (case hr => first | (go_simp; done) | (go_simp; rfl));
    intro ga wd18 n_;
    simp only [Act.put, List.setIfInBounds_toArray, List.set_cons_zero, List.set_cons_succ];
    clear H c_s z_s c_p;
    have H := n_;
    clear n_;
    have c_a := H.out.cell (g := ga) mem0;
    have z_a := H.out.frozen (g := ga) mem0;
    have c_s := H.out.cell (g := gs) mem3;
    have c_p := H.out.cell (g := gp) mem5)
 | ((with_reducible refine gate_store (t := 30) (p := 11) rfl ?_);
    refine put_box (rs1 := [box ga [.slice A1 M.l.length c1, .bool M.dn, .int .i64 M.fu, .int .i64 M.fa, .int .i64 M.size, .int .u64 M.fr, .int .u64 M.nx, .bool M.br] 30, row k67 67 (.slice A1 (M.l).length c1) M.l, row k62 62 (.slice A2 (rs).length c2) rs, box gs [.slice Af (crashF l ks).length cf, .bool false, .int .i64 (-1), .int .i64 (-1)] 27, row k67 67 (.slice Af ((crashF l ks)).length cf) ((crashF l ks)), box gp [.slice A l.length c, .bool dn, .int .i64 fu0, .int .i64 fa] 27]) rfl (t := 30) (p := 11) rfl rfl ?hr (H1 := (Sep.set0 (Sep.set0 (Sep.set0 (Sep.set0 (Sep.set0 (Sep.set0 (Sep.set0 (Sep.set0 H.out 0 (.slice A1 M.l.length c1) rfl) 1 (.bool M.dn) rfl) 2 (.int .i64 M.fu) rfl) 3 (.int .i64 M.fa) rfl) 4 (.int .i64 M.size) rfl) 5 (.int .u64 M.fr) rfl) 6 (.int .u64 M.nx) rfl) 7 (.bool M.br) rfl)) ?_;
    (case hr => first | (go_simp; done) | (go_simp; rfl));
    intro wd19 n_;
    clear H c_a z_a c_s c_p;
    have H := n_;
    clear n_;
    have c_a := H.out.cell (g := ga) mem0;
    have z_a := H.out.frozen (g := ga) mem0;
    have c_s := H.out.cell (g := gs) mem3;
    have c_p := H.out.cell (g := gp) mem5)
 | ((with_reducible refine gate_dst (N := 14) rfl ?_);
    refine new_box rfl H (cs := [.slice none 0 0, .bool false, .int .i64 0, .int .i64 0]) (t := 27) ?hr ?_;
    (case hr => first | (go_simp; done) | (go_simp; rfl));
    intro gb wd20 n_;
    simp only [Act.put, List.setIfInBounds_toArray, List.set_cons_zero, List.set_cons_succ];
    clear H c_a z_a c_s c_p;
    have H := n_;
    clear n_;
    have c_b := H.out.cell (g := gb) mem0;
    have z_b := H.out.frozen (g := gb) mem0;
    have c_a := H.out.cell (g := ga) mem1;
    have z_a := H.out.frozen (g := ga) mem1;
    have c_s := H.out.cell (g := gs) mem4;
    have c_p := H.out.cell (g := gp) mem6)
 | ((with_reducible refine gate_store (t := 27) (p := 14) rfl ?_);
    refine put_box (rs1 := [box gb [.slice Af (crashF l ks).length cf, .bool false, .int .i64 (-1), .int .i64 (-1)] 27, box ga [.slice A1 M.l.length c1, .bool M.dn, .int .i64 M.fu, .int .i64 M.fa, .int .i64 M.size, .int .u64 M.fr, .int .u64 M.nx, .bool M.br] 30, row k67 67 (.slice A1 (M.l).length c1) M.l, row k62 62 (.slice A2 (rs).length c2) rs, box gs [.slice Af (crashF l ks).length cf, .bool false, .int .i64 (-1), .int .i64 (-1)] 27, row k67 67 (.slice Af ((crashF l ks)).length cf) ((crashF l ks)), box gp [.slice A l.length c, .bool dn, .int .i64 fu0, .int .i64 fa] 27]) rfl (t := 27) (p := 14) rfl rfl ?hr (H1 := (Sep.set0 (Sep.set0 (Sep.set0 (Sep.set0 H.out 0 (.slice Af (crashF l ks).length cf) rfl) 1 (.bool false) rfl) 2 (.int .i64 (-1)) rfl) 3 (.int .i64 (-1)) rfl)) ?_;
    (case hr => first | (go_simp; done) | (go_simp; rfl));
    intro wd21 n_;
    clear H c_b z_b c_a z_a c_s c_p;
    have H := n_;
    clear n_;
    have c_b := H.out.cell (g := gb) mem0;
    have z_b := H.out.frozen (g := gb) mem0;
    have c_a := H.out.cell (g := ga) mem1;
    have z_a := H.out.frozen (g := ga) mem1;
    have c_s := H.out.cell (g := gs) mem4;
    have c_p := H.out.cell (g := gp) mem6)
 | ((with_reducible refine gate_store (t := 3) (p := 42) rfl ?_);
    refine put_box (rs1 := [box gb [.slice Af (crashF l ks).length cf, .bool false, .int .i64 fu, .int .i64 (-1)] 27, box ga [.slice A1 M.l.length c1, .bool M.dn, .int .i64 M.fu, .int .i64 M.fa, .int .i64 M.size, .int .u64 M.fr, .int .u64 M.nx, .bool M.br] 30, row k67 67 (.slice A1 (M.l).length c1) M.l, row k62 62 (.slice A2 (rs).length c2) rs, box gs [.slice Af (crashF l ks).length cf, .bool false, .int .i64 (-1), .int .i64 (-1)] 27, row k67 67 (.slice Af ((crashF l ks)).length cf) ((crashF l ks)), box gp [.slice A l.length c, .bool dn, .int .i64 fu0, .int .i64 fa] 27]) rfl (t := 3) (p := 42) rfl rfl ?hr (H1 := (Sep.set0 H.out 2 (.int .i64 fu) rfl)) ?_;
    (case hr => first | (go_simp; done) | (go_simp; rfl));
    intro wd22 n_;
    clear H c_b z_b c_a z_a c_s c_p;
    have H := n_;
    clear n_;
    have c_b := H.out.cell (g := gb) mem0;
    have z_b := H.out.frozen (g := gb) mem0;
    have c_a := H.out.cell (g := ga) mem1;
    have z_a := H.out.frozen (g := ga) mem1;
    have c_s := H.out.cell (g := gs) mem4;
    have c_p := H.out.cell (g := gp) mem6)
 | fail)
        refine ((HO2.out _ _ _ (H.out.reads mem5).2.2 (H.out.reads mem5).2.1 (HG.out.below H.out.below)).mono ?_)
        rintro e wd23 ⟨A3, c3, A4, c4, rfl, HJ⟩
        have n_ : Aside0 (Sep w wd23 [row k67 67 (.slice A3 (R.l).length c3) R.l, row k62 62 (.slice A4 (rs').length c4) rs', box gb [.slice Af (crashF l ks).length cf, .bool false, .int .i64 fu, .int .i64 (-1)] 27, box ga [.slice A1 M.l.length c1, .bool M.dn, .int .i64 M.fu, .int .i64 M.fa, .int .i64 M.size, .int .u64 M.fr, .int .u64 M.nx, .bool M.br] 30, row k67 67 (.slice A1 (M.l).length c1) M.l, row k62 62 (.slice A2 (rs).length c2) rs, box gs [.slice Af (crashF l ks).length cf, .bool false, .int .i64 (-1), .int .i64 (-1)] 27, row k67 67 (.slice Af ((crashF l ks)).length cf) ((crashF l ks)), box gp [.slice A l.length c, .bool dn, .int .i64 fu0, .int .i64 fa] 27]) := ⟨sep_join H.out HJ.out⟩
        clear H c_b z_b c_a z_a c_s c_p
        have H := n_
        clear n_
        have c_b := H.out.cell (g := gb) mem2
        have z_b := H.out.frozen (g := gb) mem2
        have c_a := H.out.cell (g := ga) mem3
        have z_a := H.out.frozen (g := ga) mem3
        have c_s := H.out.cell (g := gs) mem6
        have c_p := H.out.cell (g := gp) mem8
        clear HJ
        simp only [lgc]
        clear HO2
        go_wp2_with (first
 | ((with_reducible refine gate_dst (N := 15) rfl ?_);
    refine new_box rfl H (cs := [.slice none 0 0, .bool false, .int .i64 0, .int .i64 0, .int .i64 0, .int .u64 0, .int .u64 0, .bool false]) (t := 30) ?hr ?_;
    (case hr => first | (go_simp; done) | (go_simp; rfl));
    intro ge wd24 n_;
    simp only [Act.put, List.setIfInBounds_toArray, List.set_cons_zero, List.set_cons_succ];
    clear H c_b z_b c_a z_a c_s c_p;
    have H := n_;
    clear n_;
    have c_e := H.out.cell (g := ge) mem0;
    have z_e := H.out.frozen (g := ge) mem0;
    have c_b := H.out.cell (g := gb) mem3;
    have c_a := H.out.cell (g := ga) mem4;
    have c_s := H.out.cell (g := gs) mem7;
    have c_p := H.out.cell (g := gp) mem9)
 | ((with_reducible refine gate_store (t := 30) (p := 15) rfl ?_);
    refine put_box (rs1 := [box ge [.slice A3 R.l.length c3, .bool R.dn, .int .i64 R.fu, .int .i64 R.fa, .int .i64 R.size, .int .u64 R.fr, .int .u64 R.nx, .bool R.br] 30, row k67 67 (.slice A3 (R.l).length c3) R.l, row k62 62 (.slice A4 (rs').length c4) rs', box gb [.slice Af (crashF l ks).length cf, .bool false, .int .i64 fu, .int .i64 (-1)] 27, box ga [.slice A1 M.l.length c1, .bool M.dn, .int .i64 M.fu, .int .i64 M.fa, .int .i64 M.size, .int .u64 M.fr, .int .u64 M.nx, .bool M.br] 30, row k67 67 (.slice A1 (M.l).length c1) M.l, row k62 62 (.slice A2 (rs).length c2) rs, box gs [.slice Af (crashF l ks).length cf, .bool false, .int .i64 (-1), .int .i64 (-1)] 27, row k67 67 (.slice Af ((crashF l ks)).length cf) ((crashF l ks)), box gp [.slice A l.length c, .bool dn, .int .i64 fu0, .int .i64 fa] 27]) rfl (t := 30) (p := 15) rfl rfl ?hr (H1 := (Sep.set0 (Sep.set0 (Sep.set0 (Sep.set0 (Sep.set0 (Sep.set0 (Sep.set0 (Sep.set0 H.out 0 (.slice A3 R.l.length c3) rfl) 1 (.bool R.dn) rfl) 2 (.int .i64 R.fu) rfl) 3 (.int .i64 R.fa) rfl) 4 (.int .i64 R.size) rfl) 5 (.int .u64 R.fr) rfl) 6 (.int .u64 R.nx) rfl) 7 (.bool R.br) rfl)) ?_;
    (case hr => first | (go_simp; done) | (go_simp; rfl));
    intro wd25 n_;
    clear H c_e z_e c_b c_a c_s c_p;
    have H := n_;
    clear n_;
    have c_e := H.out.cell (g := ge) mem0;
    have z_e := H.out.frozen (g := ge) mem0;
    have c_b := H.out.cell (g := gb) mem3;
    have c_a := H.out.cell (g := ga) mem4;
    have c_s := H.out.cell (g := gs) mem7;
    have c_p := H.out.cell (g := gp) mem9)
 | fail)
        go_ret
        exact ⟨rfl, H.out.below⟩
      ·
        rw [hh] at HO2
        dsimp only at HO1 HO2
        have HO3 := Aside0.mk (fun A c w hr hc hG => open_any A c R.l false (-1) (-1) size w hr hc hG)
        rw [k3] at HO3
        dsimp only at HO3
        have K1 := Aside0.mk k1
        have K2 := Aside0.mk k2
        clear hh k1 k2 k3
        go_wp2_with (first
 | ((with_reducible refine gate_dst (N := 9) rfl ?_);
    refine new_box rfl H (cs := [.slice none 0 0, .bool false, .int .i64 0, .int .i64 0]) (t := 27) ?hr ?_;
    (case hr => first | (go_simp; done) | (go_simp; rfl));
    intro gs wd26 n_;
    simp only [Act.put, List.setIfInBounds_toArray, List.set_cons_zero, List.set_cons_succ];
    clear H c_p;
    have H := n_;
    clear n_;
    have c_s := H.out.cell (g := gs) mem0;
    have z_s := H.out.frozen (g := gs) mem0;
    have c_p := H.out.cell (g := gp) mem2)
 | ((with_reducible refine gate_store (t := 27) (p := 9) rfl ?_);
    refine put_box (rs1 := [box gs [.slice Af (crashF l ks).length cf, .bool false, .int .i64 (-1), .int .i64 (-1)] 27, row k67 67 (.slice Af ((crashF l ks)).length cf) ((crashF l ks)), box gp [.slice A l.length c, .bool dn, .int .i64 fu0, .int .i64 fa] 27]) rfl (t := 27) (p := 9) rfl rfl ?hr (H1 := (Sep.set0 (Sep.set0 (Sep.set0 (Sep.set0 H.out 0 (.slice Af (crashF l ks).length cf) rfl) 1 (.bool false) rfl) 2 (.int .i64 (-1)) rfl) 3 (.int .i64 (-1)) rfl)) ?_;
    (case hr => first | (go_simp; done) | (go_simp; rfl));
    intro wd27 n_;
    clear H c_s z_s c_p;
    have H := n_;
    clear n_;
    have c_s := H.out.cell (g := gs) mem0;
    have z_s := H.out.frozen (g := gs) mem0;
    have c_p := H.out.cell (g := gp) mem2)
 | fail)
        refine ((HO1.out _ _ _ (H.out.reads mem1).2.2 (H.out.reads mem1).2.1 (HG.out.below H.out.below)).mono ?_)
        rintro e wd28 ⟨A1, c1, A2, c2, rfl, HJ⟩
        have n_ : Aside0 (Sep w wd28 [row k67 67 (.slice A1 (M.l).length c1) M.l, row k62 62 (.slice A2 (rs).length c2) rs, box gs [.slice Af (crashF l ks).length cf, .bool false, .int .i64 (-1), .int .i64 (-1)] 27, row k67 67 (.slice Af ((crashF l ks)).length cf) ((crashF l ks)), box gp [.slice A l.length c, .bool dn, .int .i64 fu0, .int .i64 fa] 27]) := ⟨sep_join H.out HJ.out⟩
        clear H c_s z_s c_p
        have H := n_
        clear n_
        have c_s := H.out.cell (g := gs) mem2
        have z_s := H.out.frozen (g := gs) mem2
        have c_p := H.out.cell (g := gp) mem4
        clear HJ
        simp only [lgc]
        clear HO1
        go_wp2_with (first
 | ((with_reducible refine gate_dst (N := 11) rfl ?_);
    refine new_box rfl H (cs := [.slice none 0 0, .bool false, .int .i64 0, .int .i64 0, .int .i64 0, .int .u64 0, .int .u64 0, .bool false]) (t := 30) ?hr ?_;
    (case hr => first | (go_simp; done) | (go_simp; rfl));
    intro ga wd29 n_;
    simp only [Act.put, List.setIfInBounds_toArray, List.set_cons_zero, List.set_cons_succ];
    clear H c_s z_s c_p;
    have H := n_;
    clear n_;
    have c_a := H.out.cell (g := ga) mem0;
    have z_a := H.out.frozen (g := ga) mem0;
    have c_s := H.out.cell (g := gs) mem3;
    have c_p := H.out.cell (g := gp) mem5)
 | ((with_reducible refine gate_store (t := 30) (p := 11) rfl ?_);
    refine put_box (rs1 := [box ga [.slice A1 M.l.length c1, .bool M.dn, .int .i64 M.fu, .int .i64 M.fa, .int .i64 M.size, .int .u64 M.fr, .int .u64 M.nx, .bool M.br] 30, row k67 67 (.slice A1 (M.l).length c1) M.l, row k62 62 (.slice A2 (rs).length c2) rs, box gs [.slice Af (crashF l ks).length cf, .bool false, .int .i64 (-1), .int .i64 (-1)] 27, row k67 67 (.slice Af ((crashF l ks)).length cf) ((crashF l ks)), box gp [.slice A l.length c, .bool dn, .int .i64 fu0, .int .i64 fa] 27]) rfl (t := 30) (p := 11) rfl rfl ?hr (H1 := (Sep.set0 (Sep.set0 (Sep.set0 (Sep.set0 (Sep.set0 (Sep.set0 (Sep.set0 (Sep.set0 H.out 0 (.slice A1 M.l.length c1) rfl) 1 (.bool M.dn) rfl) 2 (.int .i64 M.fu) rfl) 3 (.int .i64 M.fa) rfl) 4 (.int .i64 M.size) rfl) 5 (.int .u64 M.fr) rfl) 6 (.int .u64 M.nx) rfl) 7 (.bool M.br) rfl)) ?_;
    (case hr => first | (go_simp; done) | (go_simp; rfl));
    intro wd30 n_;
    clear H c_a z_a c_s c_p;
    have H := n_;
    clear n_;
    have c_a := H.out.cell (g := ga) mem0;
    have z_a := H.out.frozen (g := ga) mem0;
    have c_s := H.out.cell (g := gs) mem3;
    have c_p := H.out.cell (g := gp) mem5)
 | ((with_reducible refine gate_dst (N := 14) rfl ?_);
    refine new_box rfl H (cs := [.slice none 0 0, .bool false, .int .i64 0, .int .i64 0]) (t := 27) ?hr ?_;
    (case hr => first | (go_simp; done) | (go_simp; rfl));
    intro gb wd31 n_;
    simp only [Act.put, List.setIfInBounds_toArray, List.set_cons_zero, List.set_cons_succ];
    clear H c_a z_a c_s c_p;
    have H := n_;
    clear n_;
    have c_b := H.out.cell (g := gb) mem0;
    have z_b := H.out.frozen (g := gb) mem0;
    have c_a := H.out.cell (g := ga) mem1;
    have z_a := H.out.frozen (g := ga) mem1;
    have c_s := H.out.cell (g := gs) mem4;
    have c_p := H.out.cell (g := gp) mem6)
 | ((with_reducible refine gate_store (t := 27) (p := 14) rfl ?_);
    refine put_box (rs1 := [box gb [.slice Af (crashF l ks).length cf, .bool false, .int .i64 (-1), .int .i64 (-1)] 27, box ga [.slice A1 M.l.length c1, .bool M.dn, .int .i64 M.fu, .int .i64 M.fa, .int .i64 M.size, .int .u64 M.fr, .int .u64 M.nx, .bool M.br] 30, row k67 67 (.slice A1 (M.l).length c1) M.l, row k62 62 (.slice A2 (rs).length c2) rs, box gs [.slice Af (crashF l ks).length cf, .bool false, .int .i64 (-1), .int .i64 (-1)] 27, row k67 67 (.slice Af ((crashF l ks)).length cf) ((crashF l ks)), box gp [.slice A l.length c, .bool dn, .int .i64 fu0, .int .i64 fa] 27]) rfl (t := 27) (p := 14) rfl rfl ?hr (H1 := (Sep.set0 (Sep.set0 (Sep.set0 (Sep.set0 H.out 0 (.slice Af (crashF l ks).length cf) rfl) 1 (.bool false) rfl) 2 (.int .i64 (-1)) rfl) 3 (.int .i64 (-1)) rfl)) ?_;
    (case hr => first | (go_simp; done) | (go_simp; rfl));
    intro wd32 n_;
    clear H c_b z_b c_a z_a c_s c_p;
    have H := n_;
    clear n_;
    have c_b := H.out.cell (g := gb) mem0;
    have z_b := H.out.frozen (g := gb) mem0;
    have c_a := H.out.cell (g := ga) mem1;
    have z_a := H.out.frozen (g := ga) mem1;
    have c_s := H.out.cell (g := gs) mem4;
    have c_p := H.out.cell (g := gp) mem6)
 | ((with_reducible refine gate_store (t := 3) (p := 42) rfl ?_);
    refine put_box (rs1 := [box gb [.slice Af (crashF l ks).length cf, .bool false, .int .i64 fu, .int .i64 (-1)] 27, box ga [.slice A1 M.l.length c1, .bool M.dn, .int .i64 M.fu, .int .i64 M.fa, .int .i64 M.size, .int .u64 M.fr, .int .u64 M.nx, .bool M.br] 30, row k67 67 (.slice A1 (M.l).length c1) M.l, row k62 62 (.slice A2 (rs).length c2) rs, box gs [.slice Af (crashF l ks).length cf, .bool false, .int .i64 (-1), .int .i64 (-1)] 27, row k67 67 (.slice Af ((crashF l ks)).length cf) ((crashF l ks)), box gp [.slice A l.length c, .bool dn, .int .i64 fu0, .int .i64 fa] 27]) rfl (t := 3) (p := 42) rfl rfl ?hr (H1 := (Sep.set0 H.out 2 (.int .i64 fu) rfl)) ?_;
    (case hr => first | (go_simp; done) | (go_simp; rfl));
    intro wd33 n_;
    clear H c_b z_b c_a z_a c_s c_p;
    have H := n_;
    clear n_;
    have c_b := H.out.cell (g := gb) mem0;
    have z_b := H.out.frozen (g := gb) mem0;
    have c_a := H.out.cell (g := ga) mem1;
    have z_a := H.out.frozen (g := ga) mem1;
    have c_s := H.out.cell (g := gs) mem4;
    have c_p := H.out.cell (g := gp) mem6)
 | fail)
        refine ((HO2.out _ _ _ (H.out.reads mem5).2.2 (H.out.reads mem5).2.1 (HG.out.below H.out.below)).mono ?_)
        rintro e wd34 ⟨A3, c3, A4, c4, rfl, HJ⟩
        have n_ : Aside0 (Sep w wd34 [row k67 67 (.slice A3 (R.l).length c3) R.l, row k62 62 (.slice A4 (([] : List S62)).length c4) (([] : List S62)), box gb [.slice Af (crashF l ks).length cf, .bool false, .int .i64 fu, .int .i64 (-1)] 27, box ga [.slice A1 M.l.length c1, .bool M.dn, .int .i64 M.fu, .int .i64 M.fa, .int .i64 M.size, .int .u64 M.fr, .int .u64 M.nx, .bool M.br] 30, row k67 67 (.slice A1 (M.l).length c1) M.l, row k62 62 (.slice A2 (rs).length c2) rs, box gs [.slice Af (crashF l ks).length cf, .bool false, .int .i64 (-1), .int .i64 (-1)] 27, row k67 67 (.slice Af ((crashF l ks)).length cf) ((crashF l ks)), box gp [.slice A l.length c, .bool dn, .int .i64 fu0, .int .i64 fa] 27]) := ⟨sep_join H.out HJ.out⟩
        clear H c_b z_b c_a z_a c_s c_p
        have H := n_
        clear n_
        have c_b := H.out.cell (g := gb) mem2
        have z_b := H.out.frozen (g := gb) mem2
        have c_a := H.out.cell (g := ga) mem3
        have z_a := H.out.frozen (g := ga) mem3
        have c_s := H.out.cell (g := gs) mem6
        have c_p := H.out.cell (g := gp) mem8
        clear HJ
        simp only [lgc]
        clear HO2
        go_wp2_with (first
 | ((with_reducible refine gate_dst (N := 15) rfl ?_);
    refine new_box rfl H (cs := [.slice none 0 0, .bool false, .int .i64 0, .int .i64 0, .int .i64 0, .int .u64 0, .int .u64 0, .bool false]) (t := 30) ?hr ?_;
    (case hr => first | (go_simp; done) | (go_simp; rfl));
    intro ge wd35 n_;
    simp only [Act.put, List.setIfInBounds_toArray, List.set_cons_zero, List.set_cons_succ];
    clear H c_b z_b c_a z_a c_s c_p;
    have H := n_;
    clear n_;
    have c_e := H.out.cell (g := ge) mem0;
    have z_e := H.out.frozen (g := ge) mem0;
    have c_b := H.out.cell (g := gb) mem3;
    have c_a := H.out.cell (g := ga) mem4;
    have c_s := H.out.cell (g := gs) mem7;
    have c_p := H.out.cell (g := gp) mem9)
 | ((with_reducible refine gate_store (t := 30) (p := 15) rfl ?_);
    refine put_box (rs1 := [box ge [.slice A3 R.l.length c3, .bool R.dn, .int .i64 R.fu, .int .i64 R.fa, .int .i64 R.size, .int .u64 R.fr, .int .u64 R.nx, .bool R.br] 30, row k67 67 (.slice A3 (R.l).length c3) R.l, row k62 62 (.slice A4 (([] : List S62)).length c4) (([] : List S62)), box gb [.slice Af (crashF l ks).length cf, .bool false, .int .i64 fu, .int .i64 (-1)] 27, box ga [.slice A1 M.l.length c1, .bool M.dn, .int .i64 M.fu, .int .i64 M.fa, .int .i64 M.size, .int .u64 M.fr, .int .u64 M.nx, .bool M.br] 30, row k67 67 (.slice A1 (M.l).length c1) M.l, row k62 62 (.slice A2 (rs).length c2) rs, box gs [.slice Af (crashF l ks).length cf, .bool false, .int .i64 (-1), .int .i64 (-1)] 27, row k67 67 (.slice Af ((crashF l ks)).length cf) ((crashF l ks)), box gp [.slice A l.length c, .bool dn, .int .i64 fu0, .int .i64 fa] 27]) rfl (t := 30) (p := 15) rfl rfl ?hr (H1 := (Sep.set0 (Sep.set0 (Sep.set0 (Sep.set0 (Sep.set0 (Sep.set0 (Sep.set0 (Sep.set0 H.out 0 (.slice A3 R.l.length c3) rfl) 1 (.bool R.dn) rfl) 2 (.int .i64 R.fu) rfl) 3 (.int .i64 R.fa) rfl) 4 (.int .i64 R.size) rfl) 5 (.int .u64 R.fr) rfl) 6 (.int .u64 R.nx) rfl) 7 (.bool R.br) rfl)) ?_;
    (case hr => first | (go_simp; done) | (go_simp; rfl));
    intro wd36 n_;
    clear H c_e z_e c_b c_a c_s c_p;
    have H := n_;
    clear n_;
    have c_e := H.out.cell (g := ge) mem0;
    have z_e := H.out.frozen (g := ge) mem0;
    have c_b := H.out.cell (g := gb) mem3;
    have c_a := H.out.cell (g := ga) mem4;
    have c_s := H.out.cell (g := gs) mem7;
    have c_p := H.out.cell (g := gp) mem9)
 | fail)
        have n_ : Aside0 (Sep w wd36 [box ge [.slice A3 R.l.length c3, .bool R.dn, .int .i64 R.fu, .int .i64 R.fa, .int .i64 R.size, .int .u64 R.fr, .int .u64 R.nx, .bool R.br] 30, row k67 67 (.slice A3 (R.l).length c3) R.l, row k62 62 (.slice A4 (([] : List S62)).length c4) (([] : List S62)), box gb [.slice Af (crashF l ks).length cf, .bool false, .int .i64 fu, .int .i64 (-1)] 27, box ga [.slice A1 M.l.length c1, .bool M.dn, .int .i64 M.fu, .int .i64 M.fa, .int .i64 M.size, .int .u64 M.fr, .int .u64 M.nx, .bool M.br] 30, row k67 67 (.slice A1 (M.l).length c1) M.l, row k62 62 (.slice A2 (rs).length c2) rs, box gs [.slice Af (crashF l ks).length cf, .bool false, .int .i64 (-1), .int .i64 (-1)] 27, row k67 67 (.slice Af ((crashF l ks)).length cf) ((crashF l ks))]) := ⟨Sep.drop9 H.out⟩
        clear H c_e z_e c_b c_a c_s c_p
        have H := n_
        clear n_
        have c_e := H.out.cell (g := ge) mem0
        have z_e := H.out.frozen (g := ge) mem0
        have c_b := H.out.cell (g := gb) mem3
        have c_a := H.out.cell (g := ga) mem4
        have c_s := H.out.cell (g := gs) mem7
        have n_ : Aside0 (Sep w wd36 [box ge [.slice A3 R.l.length c3, .bool R.dn, .int .i64 R.fu, .int .i64 R.fa, .int .i64 R.size, .int .u64 R.fr, .int .u64 R.nx, .bool R.br] 30, row k67 67 (.slice A3 (R.l).length c3) R.l, row k62 62 (.slice A4 (([] : List S62)).length c4) (([] : List S62)), box gb [.slice Af (crashF l ks).length cf, .bool false, .int .i64 fu, .int .i64 (-1)] 27, box ga [.slice A1 M.l.length c1, .bool M.dn, .int .i64 M.fu, .int .i64 M.fa, .int .i64 M.size, .int .u64 M.fr, .int .u64 M.nx, .bool M.br] 30, row k67 67 (.slice A1 (M.l).length c1) M.l, row k62 62 (.slice A2 (rs).length c2) rs, row k67 67 (.slice Af ((crashF l ks)).length cf) ((crashF l ks))]) := ⟨Sep.drop7 H.out⟩
        clear H c_e z_e c_b c_a c_s
        have H := n_
        clear n_
        have c_e := H.out.cell (g := ge) mem0
        have z_e := H.out.frozen (g := ge) mem0
        have c_b := H.out.cell (g := gb) mem3
        have c_a := H.out.cell (g := ga) mem4
        have n_ : Aside0 (Sep w wd36 [box ge [.slice A3 R.l.length c3, .bool R.dn, .int .i64 R.fu, .int .i64 R.fa, .int .i64 R.size, .int .u64 R.fr, .int .u64 R.nx, .bool R.br] 30, row k67 67 (.slice A3 (R.l).length c3) R.l, row k62 62 (.slice A4 (([] : List S62)).length c4) (([] : List S62)), box ga [.slice A1 M.l.length c1, .bool M.dn, .int .i64 M.fu, .int .i64 M.fa, .int .i64 M.size, .int .u64 M.fr, .int .u64 M.nx, .bool M.br] 30, row k67 67 (.slice A1 (M.l).length c1) M.l, row k62 62 (.slice A2 (rs).length c2) rs, row k67 67 (.slice Af ((crashF l ks)).length cf) ((crashF l ks))]) := ⟨Sep.drop3 H.out⟩
        clear H c_e z_e c_b c_a
        have H := n_
        clear n_
        have c_e := H.out.cell (g := ge) mem0
        have z_e := H.out.frozen (g := ge) mem0
        have c_a := H.out.cell (g := ga) mem3
        have n_ : Aside0 (Sep w wd36 [box ge [.slice A3 R.l.length c3, .bool R.dn, .int .i64 R.fu, .int .i64 R.fa, .int .i64 R.size, .int .u64 R.fr, .int .u64 R.nx, .bool R.br] 30, row k67 67 (.slice A3 (R.l).length c3) R.l, row k62 62 (.slice A4 (([] : List S62)).length c4) (([] : List S62)), box ga [.slice A1 M.l.length c1, .bool M.dn, .int .i64 M.fu, .int .i64 M.fa, .int .i64 M.size, .int .u64 M.fr, .int .u64 M.nx, .bool M.br] 30, row k67 67 (.slice A1 (M.l).length c1) M.l, row k62 62 (.slice A2 (rs).length c2) rs]) := ⟨Sep.drop6 H.out⟩
        clear H c_e z_e c_a
        have H := n_
        clear n_
        have c_e := H.out.cell (g := ge) mem0
        have z_e := H.out.frozen (g := ge) mem0
        have c_a := H.out.cell (g := ga) mem3
        have n_ : Aside0 (Sep w wd36 [box ge [.slice A3 R.l.length c3, .bool R.dn, .int .i64 R.fu, .int .i64 R.fa, .int .i64 R.size, .int .u64 R.fr, .int .u64 R.nx, .bool R.br] 30, row k67 67 (.slice A3 (R.l).length c3) R.l, box ga [.slice A1 M.l.length c1, .bool M.dn, .int .i64 M.fu, .int .i64 M.fa, .int .i64 M.size, .int .u64 M.fr, .int .u64 M.nx, .bool M.br] 30, row k67 67 (.slice A1 (M.l).length c1) M.l, row k62 62 (.slice A2 (rs).length c2) rs]) := ⟨Sep.drop2 H.out⟩
        clear H c_e z_e c_a
        have H := n_
        clear n_
        have c_e := H.out.cell (g := ge) mem0
        have z_e := H.out.frozen (g := ge) mem0
        have c_a := H.out.cell (g := ga) mem2
        refine ((disk_Crash.calls A3 c3 R.l R.dn R.fu R.fa none 0 [] R.l false (-1) (-1) 0 _ (H.out.reads mem1).2.2 (H.out.reads mem1).2.1 (Kd.C_nil _ _) (Nat.le_refl _) (by rw [disk_Crash.f, if_pos K1.out, K2.out])).mono ?_)
        rintro e wd37 ⟨v_, rfl, ho_, hb_⟩
        obtain ⟨Ah, ch, eo_⟩ := Kd.R_slice ho_
        subst eo_
        have n_ : Aside0 (Sep w wd37 [row k67 67 (.slice Ah (R.l).length ch) R.l, box ge [.slice A3 R.l.length c3, .bool R.dn, .int .i64 R.fu, .int .i64 R.fa, .int .i64 R.size, .int .u64 R.fr, .int .u64 R.nx, .bool R.br] 30, row k67 67 (.slice A3 (R.l).length c3) R.l, box ga [.slice A1 M.l.length c1, .bool M.dn, .int .i64 M.fu, .int .i64 M.fa, .int .i64 M.size, .int .u64 M.fr, .int .u64 M.nx, .bool M.br] 30, row k67 67 (.slice A1 (M.l).length c1) M.l, row k62 62 (.slice A2 (rs).length c2) rs]) := ⟨Sep.push_row H.out hb_ ho_ k67_flat⟩
        clear H c_e z_e c_a
        have H := n_
        clear n_
        have c_e := H.out.cell (g := ge) mem1
        have z_e := H.out.frozen (g := ge) mem1
        have c_a := H.out.cell (g := ga) mem3
        clear ho_ hb_
        go_wp2_with (first
 | ((with_reducible refine gate_dst (N := 18) rfl ?_);
    refine new_box rfl H (cs := [.slice none 0 0, .bool false, .int .i64 0, .int .i64 0]) (t := 27) ?hr ?_;
    (case hr => first | (go_simp; done) | (go_simp; rfl));
    intro gk wd38 n_;
    simp only [Act.put, List.setIfInBounds_toArray, List.set_cons_zero, List.set_cons_succ];
    clear H c_e z_e c_a;
    have H := n_;
    clear n_;
    have c_k := H.out.cell (g := gk) mem0;
    have z_k := H.out.frozen (g := gk) mem0;
    have c_e := H.out.cell (g := ge) mem2;
    have c_a := H.out.cell (g := ga) mem4)
 | ((with_reducible refine gate_store (t := 27) (p := 18) rfl ?_);
    refine put_box (rs1 := [box gk [.slice Ah R.l.length ch, .bool false, .int .i64 (-1), .int .i64 (-1)] 27, row k67 67 (.slice Ah (R.l).length ch) R.l, box ge [.slice A3 R.l.length c3, .bool R.dn, .int .i64 R.fu, .int .i64 R.fa, .int .i64 R.size, .int .u64 R.fr, .int .u64 R.nx, .bool R.br] 30, row k67 67 (.slice A3 (R.l).length c3) R.l, box ga [.slice A1 M.l.length c1, .bool M.dn, .int .i64 M.fu, .int .i64 M.fa, .int .i64 M.size, .int .u64 M.fr, .int .u64 M.nx, .bool M.br] 30, row k67 67 (.slice A1 (M.l).length c1) M.l, row k62 62 (.slice A2 (rs).length c2) rs]) rfl (t := 27) (p := 18) rfl rfl ?hr (H1 := (Sep.set0 (Sep.set0 (Sep.set0 (Sep.set0 H.out 0 (.slice Ah R.l.length ch) rfl) 1 (.bool false) rfl) 2 (.int .i64 (-1)) rfl) 3 (.int .i64 (-1)) rfl)) ?_;
    (case hr => first | (go_simp; done) | (go_simp; rfl));
    intro wd39 n_;
    clear H c_k z_k c_e c_a;
    have H := n_;
    clear n_;
    have c_k := H.out.cell (g := gk) mem0;
    have z_k := H.out.frozen (g := gk) mem0;
    have c_e := H.out.cell (g := ge) mem2;
    have c_a := H.out.cell (g := ga) mem4)
 | fail)
        refine ((HO3.out _ _ _ (H.out.reads mem1).2.2 (H.out.reads mem1).2.1 (HG.out.below H.out.below)).mono ?_)
        rintro e wd40 ⟨A5, c5, A6, c6, rfl, HJ⟩
        have n_ : Aside0 (Sep w wd40 [row k67 67 (.slice A5 (M.l).length c5) M.l, row k62 62 (.slice A6 (rs).length c6) rs, box gk [.slice Ah R.l.length ch, .bool false, .int .i64 (-1), .int .i64 (-1)] 27, row k67 67 (.slice Ah (R.l).length ch) R.l, box ge [.slice A3 R.l.length c3, .bool R.dn, .int .i64 R.fu, .int .i64 R.fa, .int .i64 R.size, .int .u64 R.fr, .int .u64 R.nx, .bool R.br] 30, row k67 67 (.slice A3 (R.l).length c3) R.l, box ga [.slice A1 M.l.length c1, .bool M.dn, .int .i64 M.fu, .int .i64 M.fa, .int .i64 M.size, .int .u64 M.fr, .int .u64 M.nx, .bool M.br] 30, row k67 67 (.slice A1 (M.l).length c1) M.l, row k62 62 (.slice A2 (rs).length c2) rs]) := ⟨sep_join H.out HJ.out⟩
        clear H c_k z_k c_e c_a
        have H := n_
        clear n_
        have c_k := H.out.cell (g := gk) mem2
        have z_k := H.out.frozen (g := gk) mem2
        have c_e := H.out.cell (g := ge) mem4
        have c_a := H.out.cell (g := ga) mem6
        clear HJ
        simp only [lgc]
        clear HO3
        go_wp2_with (first
 | ((with_reducible refine gate_dst (N := 20) rfl ?_);
    refine new_box rfl H (cs := [.slice none 0 0, .bool false, .int .i64 0, .int .i64 0, .int .i64 0, .int .u64 0, .int .u64 0, .bool false]) (t := 30) ?hr ?_;
    (case hr => first | (go_simp; done) | (go_simp; rfl));
    intro gx wd41 n_;
    simp only [Act.put, List.setIfInBounds_toArray, List.set_cons_zero, List.set_cons_succ];
    clear H c_k z_k c_e c_a;
    have H := n_;
    clear n_;
    have c_x := H.out.cell (g := gx) mem0;
    have z_x := H.out.frozen (g := gx) mem0;
    have c_k := H.out.cell (g := gk) mem3;
    have c_e := H.out.cell (g := ge) mem5;
    have c_a := H.out.cell (g := ga) mem7)
 | ((with_reducible refine gate_store (t := 30) (p := 20) rfl ?_);
    refine put_box (rs1 := [box gx [.slice A5 M.l.length c5, .bool M.dn, .int .i64 M.fu, .int .i64 M.fa, .int .i64 M.size, .int .u64 M.fr, .int .u64 M.nx, .bool M.br] 30, row k67 67 (.slice A5 (M.l).length c5) M.l, row k62 62 (.slice A6 (rs).length c6) rs, box gk [.slice Ah R.l.length ch, .bool false, .int .i64 (-1), .int .i64 (-1)] 27, row k67 67 (.slice Ah (R.l).length ch) R.l, box ge [.slice A3 R.l.length c3, .bool R.dn, .int .i64 R.fu, .int .i64 R.fa, .int .i64 R.size, .int .u64 R.fr, .int .u64 R.nx, .bool R.br] 30, row k67 67 (.slice A3 (R.l).length c3) R.l, box ga [.slice A1 M.l.length c1, .bool M.dn, .int .i64 M.fu, .int .i64 M.fa, .int .i64 M.size, .int .u64 M.fr, .int .u64 M.nx, .bool M.br] 30, row k67 67 (.slice A1 (M.l).length c1) M.l, row k62 62 (.slice A2 (rs).length c2) rs]) rfl (t := 30) (p := 20) rfl rfl ?hr (H1 := (Sep.set0 (Sep.set0 (Sep.set0 (Sep.set0 (Sep.set0 (Sep.set0 (Sep.set0 (Sep.set0 H.out 0 (.slice A5 M.l.length c5) rfl) 1 (.bool M.dn) rfl) 2 (.int .i64 M.fu) rfl) 3 (.int .i64 M.fa) rfl) 4 (.int .i64 M.size) rfl) 5 (.int .u64 M.fr) rfl) 6 (.int .u64 M.nx) rfl) 7 (.bool M.br) rfl)) ?_;
    (case hr => first | (go_simp; done) | (go_simp; rfl));
    intro wd42 n_;
    clear H c_x z_x c_k c_e c_a;
    have H := n_;
    clear n_;
    have c_x := H.out.cell (g := gx) mem0;
    have z_x := H.out.frozen (g := gx) mem0;
    have c_k := H.out.cell (g := gk) mem3;
    have c_e := H.out.cell (g := ge) mem5;
    have c_a := H.out.cell (g := ga) mem7)
 | fail)
        refine ((penstockref10_Same.calls 70 A1 c1 M.l M.dn M.fu M.fa M.size M.fr M.nx M.br A5 c5 M.l M.dn M.fu M.fa M.size M.fr M.nx M.br true _ (H.out.reads mem8).2.2 (H.out.reads mem8).2.1 (H.out.reads mem1).2.2 (H.out.reads mem1).2.1 HSM.out).mono ?_)
        rintro e wd43 ⟨rfl, hb_⟩
        have n_ : Aside0 (Sep w wd43 [box gx [.slice A5 M.l.length c5, .bool M.dn, .int .i64 M.fu, .int .i64 M.fa, .int .i64 M.size, .int .u64 M.fr, .int .u64 M.nx, .bool M.br] 30, row k67 67 (.slice A5 (M.l).length c5) M.l, row k62 62 (.slice A6 (rs).length c6) rs, box gk [.slice Ah R.l.length ch, .bool false, .int .i64 (-1), .int .i64 (-1)] 27, row k67 67 (.slice Ah (R.l).length ch) R.l, box ge [.slice A3 R.l.length c3, .bool R.dn, .int .i64 R.fu, .int .i64 R.fa, .int .i64 R.size, .int .u64 R.fr, .int .u64 R.nx, .bool R.br] 30, row k67 67 (.slice A3 (R.l).length c3) R.l, box ga [.slice A1 M.l.length c1, .bool M.dn, .int .i64 M.fu, .int .i64 M.fa, .int .i64 M.size, .int .u64 M.fr, .int .u64 M.nx, .bool M.br] 30, row k67 67 (.slice A1 (M.l).length c1) M.l, row k62 62 (.slice A2 (rs).length c2) rs]) := ⟨H.out.step hb_⟩
        clear H c_x z_x c_k c_e c_a
        have H := n_
        clear n_
        have c_x := H.out.cell (g := gx) mem0
        have z_x := H.out.frozen (g := gx) mem0
        have c_k := H.out.cell (g := gk) mem3
        have c_e := H.out.cell (g := ge) mem5
        have c_a := H.out.cell (g := ga) mem7
        clear hb_
        go_wp2_with fail
        refine ((penstockref10_SameRecords.calls (rs.length + 1) A2 c2 rs A6 c6 rs true _ (H.out.reads mem9).2.2 (H.out.reads mem9).2.1 (H.out.reads mem2).2.2 (H.out.reads mem2).2.1 HSR.out).mono ?_)
        rintro e wd44 ⟨rfl, hb_⟩
        have n_ : Aside0 (Sep w wd44 [box gx [.slice A5 M.l.length c5, .bool M.dn, .int .i64 M.fu, .int .i64 M.fa, .int .i64 M.size, .int .u64 M.fr, .int .u64 M.nx, .bool M.br] 30, row k67 67 (.slice A5 (M.l).length c5) M.l, row k62 62 (.slice A6 (rs).length c6) rs, box gk [.slice Ah R.l.length ch, .bool false, .int .i64 (-1), .int .i64 (-1)] 27, row k67 67 (.slice Ah (R.l).length ch) R.l, box ge [.slice A3 R.l.length c3, .bool R.dn, .int .i64 R.fu, .int .i64 R.fa, .int .i64 R.size, .int .u64 R.fr, .int .u64 R.nx, .bool R.br] 30, row k67 67 (.slice A3 (R.l).length c3) R.l, box ga [.slice A1 M.l.length c1, .bool M.dn, .int .i64 M.fu, .int .i64 M.fa, .int .i64 M.size, .int .u64 M.fr, .int .u64 M.nx, .bool M.br] 30, row k67 67 (.slice A1 (M.l).length c1) M.l, row k62 62 (.slice A2 (rs).length c2) rs]) := ⟨H.out.step (Drawn0.below hb_)⟩
        clear H c_x z_x c_k c_e c_a
        have H := n_
        clear n_
        have c_x := H.out.cell (g := gx) mem0
        have z_x := H.out.frozen (g := gx) mem0
        have c_k := H.out.cell (g := gk) mem3
        have c_e := H.out.cell (g := ge) mem5
        have c_a := H.out.cell (g := ga) mem7
        clear hb_
        go_wp2_with fail
        go_ret
        exact ⟨rfl, H.out.below⟩
  ·
    have HOK := Aside0.mk hok
    clear hok
    refine ((disk_Crash.calls A c l dn fu0 fa Ak ck ks [] false 0 0 6 _ (H.out.came HRp.out) HCp.out (H.out.came HRk.out) HCk.out (by rw [disk_Crash.f, if_neg HOK.out])).mono ?_)
    rintro e wd45 ⟨v_, rfl, ho_, hb_⟩
    obtain ⟨Af, cf, eo_⟩ := Kd.R_slice ho_
    subst eo_
    have n_ : Aside0 (Sep w wd45 [row k67 67 (.slice Af (([] : List S67)).length cf) (([] : List S67)), box gp [.slice A l.length c, .bool dn, .int .i64 fu0, .int .i64 fa] 27]) := ⟨Sep.push_row H.out hb_ ho_ k67_flat⟩
    clear H c_p
    have H := n_
    clear n_
    have c_p := H.out.cell (g := gp) mem1
    clear ho_ hb_
    go_wp2_with (first
 | ((with_reducible refine gate_dst (N := 9) rfl ?_);
    refine new_box rfl H (cs := [.slice none 0 0, .bool false, .int .i64 0, .int .i64 0]) (t := 27) ?hr ?_;
    (case hr => first | (go_simp; done) | (go_simp; rfl));
    intro gs wd46 n_;
    simp only [Act.put, List.setIfInBounds_toArray, List.set_cons_zero, List.set_cons_succ];
    clear H c_p;
    have H := n_;
    clear n_;
    have c_s := H.out.cell (g := gs) mem0;
    have z_s := H.out.frozen (g := gs) mem0;
    have c_p := H.out.cell (g := gp) mem2)
 | ((with_reducible refine gate_store (t := 27) (p := 9) rfl ?_);
    refine put_box (rs1 := [box gs [.slice Af 0 cf, .bool false, .int .i64 0, .int .i64 0] 27, row k67 67 (.slice Af (([] : List S67)).length cf) (([] : List S67)), box gp [.slice A l.length c, .bool dn, .int .i64 fu0, .int .i64 fa] 27]) rfl (t := 27) (p := 9) rfl rfl ?hr (H1 := (Sep.set0 (Sep.set0 (Sep.set0 (Sep.set0 H.out 0 (.slice Af 0 cf) rfl) 1 (.bool false) rfl) 2 (.int .i64 0) rfl) 3 (.int .i64 0) rfl)) ?_;
    (case hr => first | (go_simp; done) | (go_simp; rfl));
    intro wd47 n_;
    clear H c_s z_s c_p;
    have H := n_;
    clear n_;
    have c_s := H.out.cell (g := gs) mem0;
    have z_s := H.out.frozen (g := gs) mem0;
    have c_p := H.out.cell (g := gp) mem2)
 | fail)
    go_ret
    exact ⟨rfl, H.out.below⟩
end Go.Proofs.YtanonhipicoigaaGreatDoor.U
