import Derived.BigRegion
import Derived.Deep.DeepCutAuto
import Derived.Test.YtanonhipicoigaaMg
import Derived.Test.YtanonhipicoigaaMf
namespace Go.Proofs.Ytanonhipicoigaa.T
open Go.RowKit Go.Proofs.YtanonhipicoigaaW.PrintWords Go.Proofs.YtanonhipicoigaaW.PrintLast Go.Proofs.YtanonhipicoigaaW.PrintMore Go.Proofs.Ytanonhipicoigaa.Sp
set_option linter.unusedVariables false
set_option linter.unusedSimpArgs false
set_option maxHeartbeats 8000000 in
set_option maxRecDepth 100000 in
theorem rCall.calls (A : Option Addr) (c : Nat) (l : List S43) (dn : Bool) (fu fa : Int) (k : Int) (nm dt : ByteArray) (n : Int) (l2 : List S43) (dn2 : Bool) (fu2 fa2 e2 : Int) (w : World) (hr : Kd.C k43 w A l.length l) (hc : l.length ≤ c) (hd : doF l dn fu fa k nm dt n = (l2, dn2, fu2, fa2, e2)) :
  Calls Try.prog 20 #[.agg #[.slice A l.length c, .bool dn, .int .i64 fu, .int .i64 fa], .agg #[.int .u8 k, .string nm, .string dt, .int .i64 n]] w fun e w' => ∃ v_ : Value, e = .returned (.tuple #[.agg #[v_, .bool dn2, .int .i64 fu2, .int .i64 fa2], .int .i64 e2]) ∧ Kd.R k43 43 w' w.heap.size (fun _ => True) v_ l2 ∧ Below w.heap.size w w' := by
 have HD := Aside0.mk hd
 clear hd
 have HRp := Aside0.mk hr
 have HCp := Aside0.mk hc
 have HMX := Aside0.mk (Kd.C_max hr)
 clear hr hc
 have H := Aside0.mk (Sep.start w)
 go_enter Try.func20, Try.ntmps20
 by_cases h1 : k = 1
 ·
  have e1_ : (k == 1) = true := beq_iff_eq.2 h1
  have HK := Aside0.mk h1
  clear h1
  go_wp2_with (first
 | ((with_reducible refine gate_dst (N := 2) rfl ?_);
    refine new_box rfl H (cs := [.slice A l.length c, .bool dn, .int .i64 fu, .int .i64 fa]) (t := 24) ?hr ?_;
    (case hr => first | (go_simp; done) | (go_simp; rfl));
    intro gd wd31 n_;
    simp only [Act.put, List.setIfInBounds_toArray, List.set_cons_zero, List.set_cons_succ];
    clear H;
    have H := n_;
    clear n_;
    have c_d := H.out.cell (g := gd) mem0)
 | ((with_reducible refine gate_dst (N := 3) rfl ?_);
    refine new_box rfl H (cs := [.int .u8 k, .string nm, .string dt, .int .i64 n]) (t := 38) ?hr ?_;
    (case hr => first | (go_simp; done) | (go_simp; rfl));
    intro gs wd32 n_;
    simp only [Act.put, List.setIfInBounds_toArray, List.set_cons_zero, List.set_cons_succ];
    clear H c_d;
    have H := n_;
    clear n_;
    have c_s := H.out.cell (g := gs) mem0;
    have c_d := H.out.cell (g := gd) mem1)
 | ((with_reducible refine gate_dst (N := 4) rfl ?_);
    refine new_box rfl H (cs := [.slice none 0 0, .bool false, .int .i64 0, .int .i64 0]) (t := 24) ?hr ?_;
    (case hr => first | (go_simp; done) | (go_simp; rfl));
    intro gz wd33 n_;
    simp only [Act.put, List.setIfInBounds_toArray, List.set_cons_zero, List.set_cons_succ];
    clear H c_s c_d;
    have H := n_;
    clear n_;
    have c_z := H.out.cell (g := gz) mem0;
    have z_z := H.out.frozen (g := gz) mem0;
    have c_s := H.out.cell (g := gs) mem1;
    have c_d := H.out.cell (g := gd) mem2)
 | fail)
  have h_ : createF l dn fu fa nm = (l2, dn2, fu2, fa2, e2) := by rw [← HD.out, HK.out]; rfl
  refine ((disk_Create.calls A c l dn fu fa nm l2 dn2 fu2 fa2 e2 _ (H.out.came HRp.out) HCp.out (congrArg some h_)).mono ?_)
  rintro e wd34 ⟨v_, rfl, ho_, hb_⟩
  obtain ⟨Ao, co, eo_⟩ := Kd.R_slice ho_
  subst eo_
  have n_ : Aside0 (Sep w wd34 [row k43 43 (.slice Ao (l2).length co) l2, box gz [.slice none 0 0, .bool false, .int .i64 0, .int .i64 0] 24, box gs [.int .u8 k, .string nm, .string dt, .int .i64 n] 38, box gd [.slice A l.length c, .bool dn, .int .i64 fu, .int .i64 fa] 24]) := ⟨Sep.push_row H.out hb_ ho_ k43_flat⟩
  clear H c_z z_z c_s c_d
  have H := n_
  clear n_
  have c_z := H.out.cell (g := gz) mem1
  have z_z := H.out.frozen (g := gz) mem1
  have c_s := H.out.cell (g := gs) mem2
  have c_d := H.out.cell (g := gd) mem3
  clear ho_ hb_
  go_wp2_with (first
 | ((with_reducible refine gate_store (t := 24) (p := 4) rfl ?_);
    refine put_box (rs1 := [row k43 43 (.slice Ao (l2).length co) l2, box gz [.slice Ao (l2).length co, .bool dn2, .int .i64 fu2, .int .i64 fa2] 24, box gs [.int .u8 k, .string nm, .string dt, .int .i64 n] 38, box gd [.slice A l.length c, .bool dn, .int .i64 fu, .int .i64 fa] 24]) rfl (t := 24) (p := 4) rfl rfl ?hr (H1 := (Sep.set1 (Sep.set1 (Sep.set1 (Sep.set1 H.out 0 (.slice Ao (l2).length co) rfl) 1 (.bool dn2) rfl) 2 (.int .i64 fu2) rfl) 3 (.int .i64 fa2) rfl)) ?_;
    (case hr => first | (go_simp; done) | (go_simp; rfl));
    intro wd35 n_;
    clear H c_z z_z c_s c_d;
    have H := n_;
    clear n_;
    have c_z := H.out.cell (g := gz) mem1;
    have z_z := H.out.frozen (g := gz) mem1;
    have c_s := H.out.cell (g := gs) mem2;
    have c_d := H.out.cell (g := gd) mem3)
 | fail)
  (try simp only [Exit.inBlock, Exit.then])
  refine bodyPost_ret (results_ct rfl _ _ gz 24 #[.slice Ao (l2).length co, .bool dn2, .int .i64 fu2, .int .i64 fa2] (0, 0) _ rfl (H.out.box_ mem1) Try.underlying24 rfl (by kernel_rfl)) rfl ?_
  exact ⟨_, rfl, sep_own H.out mem0 k43_flat2, H.out.below⟩
 ·
  by_cases h2 : k = 2
  ·
   have e1_ : (k == 1) = false := beq_eq_false_iff_ne.2 h1
   have e2_ : (k == 2) = true := beq_iff_eq.2 h2
   have HK := Aside0.mk h2
   clear h1 h2
   go_wp2_with (first
 | ((with_reducible refine gate_dst (N := 2) rfl ?_);
    refine new_box rfl H (cs := [.slice A l.length c, .bool dn, .int .i64 fu, .int .i64 fa]) (t := 24) ?hr ?_;
    (case hr => first | (go_simp; done) | (go_simp; rfl));
    intro gd wd36 n_;
    simp only [Act.put, List.setIfInBounds_toArray, List.set_cons_zero, List.set_cons_succ];
    clear H;
    have H := n_;
    clear n_;
    have c_d := H.out.cell (g := gd) mem0)
 | ((with_reducible refine gate_dst (N := 3) rfl ?_);
    refine new_box rfl H (cs := [.int .u8 k, .string nm, .string dt, .int .i64 n]) (t := 38) ?hr ?_;
    (case hr => first | (go_simp; done) | (go_simp; rfl));
    intro gs wd37 n_;
    simp only [Act.put, List.setIfInBounds_toArray, List.set_cons_zero, List.set_cons_succ];
    clear H c_d;
    have H := n_;
    clear n_;
    have c_s := H.out.cell (g := gs) mem0;
    have c_d := H.out.cell (g := gd) mem1)
 | ((with_reducible refine gate_dst (N := 4) rfl ?_);
    refine new_box rfl H (cs := [.slice none 0 0, .bool false, .int .i64 0, .int .i64 0]) (t := 24) ?hr ?_;
    (case hr => first | (go_simp; done) | (go_simp; rfl));
    intro gz wd38 n_;
    simp only [Act.put, List.setIfInBounds_toArray, List.set_cons_zero, List.set_cons_succ];
    clear H c_s c_d;
    have H := n_;
    clear n_;
    have c_z := H.out.cell (g := gz) mem0;
    have z_z := H.out.frozen (g := gz) mem0;
    have c_s := H.out.cell (g := gs) mem1;
    have c_d := H.out.cell (g := gd) mem2)
 | fail)
   have h_ : appendF l dn fu fa nm dt = (l2, dn2, fu2, fa2, e2) := by rw [← HD.out, HK.out]; rfl
   refine ((disk_Append.calls A c l dn fu fa nm dt l2 dn2 fu2 fa2 e2 _ (H.out.came HRp.out) HCp.out (congrArg some h_)).mono ?_)
   rintro e wd39 ⟨v_, rfl, ho_, hb_⟩
   obtain ⟨Ao, co, eo_⟩ := Kd.R_slice ho_
   subst eo_
   have n_ : Aside0 (Sep w wd39 [row k43 43 (.slice Ao (l2).length co) l2, box gz [.slice none 0 0, .bool false, .int .i64 0, .int .i64 0] 24, box gs [.int .u8 k, .string nm, .string dt, .int .i64 n] 38, box gd [.slice A l.length c, .bool dn, .int .i64 fu, .int .i64 fa] 24]) := ⟨Sep.push_row H.out hb_ ho_ k43_flat⟩
   clear H c_z z_z c_s c_d
   have H := n_
   clear n_
   have c_z := H.out.cell (g := gz) mem1
   have z_z := H.out.frozen (g := gz) mem1
   have c_s := H.out.cell (g := gs) mem2
   have c_d := H.out.cell (g := gd) mem3
   clear ho_ hb_
   go_wp2_with (first
 | ((with_reducible refine gate_store (t := 24) (p := 4) rfl ?_);
    refine put_box (rs1 := [row k43 43 (.slice Ao (l2).length co) l2, box gz [.slice Ao (l2).length co, .bool dn2, .int .i64 fu2, .int .i64 fa2] 24, box gs [.int .u8 k, .string nm, .string dt, .int .i64 n] 38, box gd [.slice A l.length c, .bool dn, .int .i64 fu, .int .i64 fa] 24]) rfl (t := 24) (p := 4) rfl rfl ?hr (H1 := (Sep.set1 (Sep.set1 (Sep.set1 (Sep.set1 H.out 0 (.slice Ao (l2).length co) rfl) 1 (.bool dn2) rfl) 2 (.int .i64 fu2) rfl) 3 (.int .i64 fa2) rfl)) ?_;
    (case hr => first | (go_simp; done) | (go_simp; rfl));
    intro wd40 n_;
    clear H c_z z_z c_s c_d;
    have H := n_;
    clear n_;
    have c_z := H.out.cell (g := gz) mem1;
    have z_z := H.out.frozen (g := gz) mem1;
    have c_s := H.out.cell (g := gs) mem2;
    have c_d := H.out.cell (g := gd) mem3)
 | fail)
   (try simp only [Exit.inBlock, Exit.then])
   refine bodyPost_ret (results_ct rfl _ _ gz 24 #[.slice Ao (l2).length co, .bool dn2, .int .i64 fu2, .int .i64 fa2] (0, 0) _ rfl (H.out.box_ mem1) Try.underlying24 rfl (by kernel_rfl)) rfl ?_
   exact ⟨_, rfl, sep_own H.out mem0 k43_flat2, H.out.below⟩
  ·
   by_cases h3 : k = 3
   ·
    have e1_ : (k == 1) = false := beq_eq_false_iff_ne.2 h1
    have e2_ : (k == 2) = false := beq_eq_false_iff_ne.2 h2
    have e3_ : (k == 3) = true := beq_iff_eq.2 h3
    have HK := Aside0.mk h3
    clear h1 h2 h3
    go_wp2_with (first
 | ((with_reducible refine gate_dst (N := 2) rfl ?_);
    refine new_box rfl H (cs := [.slice A l.length c, .bool dn, .int .i64 fu, .int .i64 fa]) (t := 24) ?hr ?_;
    (case hr => first | (go_simp; done) | (go_simp; rfl));
    intro gd wd41 n_;
    simp only [Act.put, List.setIfInBounds_toArray, List.set_cons_zero, List.set_cons_succ];
    clear H;
    have H := n_;
    clear n_;
    have c_d := H.out.cell (g := gd) mem0)
 | ((with_reducible refine gate_dst (N := 3) rfl ?_);
    refine new_box rfl H (cs := [.int .u8 k, .string nm, .string dt, .int .i64 n]) (t := 38) ?hr ?_;
    (case hr => first | (go_simp; done) | (go_simp; rfl));
    intro gs wd42 n_;
    simp only [Act.put, List.setIfInBounds_toArray, List.set_cons_zero, List.set_cons_succ];
    clear H c_d;
    have H := n_;
    clear n_;
    have c_s := H.out.cell (g := gs) mem0;
    have c_d := H.out.cell (g := gd) mem1)
 | ((with_reducible refine gate_dst (N := 4) rfl ?_);
    refine new_box rfl H (cs := [.slice none 0 0, .bool false, .int .i64 0, .int .i64 0]) (t := 24) ?hr ?_;
    (case hr => first | (go_simp; done) | (go_simp; rfl));
    intro gz wd43 n_;
    simp only [Act.put, List.setIfInBounds_toArray, List.set_cons_zero, List.set_cons_succ];
    clear H c_s c_d;
    have H := n_;
    clear n_;
    have c_z := H.out.cell (g := gz) mem0;
    have z_z := H.out.frozen (g := gz) mem0;
    have c_s := H.out.cell (g := gs) mem1;
    have c_d := H.out.cell (g := gd) mem2)
 | fail)
    have h_ : syncF l dn fu fa nm = (l2, dn2, fu2, fa2, e2) := by rw [← HD.out, HK.out]; rfl
    refine ((disk_Sync.calls A c l dn fu fa nm l2 dn2 fu2 fa2 e2 _ (H.out.came HRp.out) HCp.out (congrArg some h_)).mono ?_)
    rintro e wd44 ⟨v_, rfl, ho_, hb_⟩
    obtain ⟨Ao, co, eo_⟩ := Kd.R_slice ho_
    subst eo_
    have n_ : Aside0 (Sep w wd44 [row k43 43 (.slice Ao (l2).length co) l2, box gz [.slice none 0 0, .bool false, .int .i64 0, .int .i64 0] 24, box gs [.int .u8 k, .string nm, .string dt, .int .i64 n] 38, box gd [.slice A l.length c, .bool dn, .int .i64 fu, .int .i64 fa] 24]) := ⟨Sep.push_row H.out hb_ ho_ k43_flat⟩
    clear H c_z z_z c_s c_d
    have H := n_
    clear n_
    have c_z := H.out.cell (g := gz) mem1
    have z_z := H.out.frozen (g := gz) mem1
    have c_s := H.out.cell (g := gs) mem2
    have c_d := H.out.cell (g := gd) mem3
    clear ho_ hb_
    go_wp2_with (first
 | ((with_reducible refine gate_store (t := 24) (p := 4) rfl ?_);
    refine put_box (rs1 := [row k43 43 (.slice Ao (l2).length co) l2, box gz [.slice Ao (l2).length co, .bool dn2, .int .i64 fu2, .int .i64 fa2] 24, box gs [.int .u8 k, .string nm, .string dt, .int .i64 n] 38, box gd [.slice A l.length c, .bool dn, .int .i64 fu, .int .i64 fa] 24]) rfl (t := 24) (p := 4) rfl rfl ?hr (H1 := (Sep.set1 (Sep.set1 (Sep.set1 (Sep.set1 H.out 0 (.slice Ao (l2).length co) rfl) 1 (.bool dn2) rfl) 2 (.int .i64 fu2) rfl) 3 (.int .i64 fa2) rfl)) ?_;
    (case hr => first | (go_simp; done) | (go_simp; rfl));
    intro wd45 n_;
    clear H c_z z_z c_s c_d;
    have H := n_;
    clear n_;
    have c_z := H.out.cell (g := gz) mem1;
    have z_z := H.out.frozen (g := gz) mem1;
    have c_s := H.out.cell (g := gs) mem2;
    have c_d := H.out.cell (g := gd) mem3)
 | fail)
    (try simp only [Exit.inBlock, Exit.then])
    refine bodyPost_ret (results_ct rfl _ _ gz 24 #[.slice Ao (l2).length co, .bool dn2, .int .i64 fu2, .int .i64 fa2] (0, 0) _ rfl (H.out.box_ mem1) Try.underlying24 rfl (by kernel_rfl)) rfl ?_
    exact ⟨_, rfl, sep_own H.out mem0 k43_flat2, H.out.below⟩
   ·
    by_cases h4 : k = 4
    ·
     have e1_ : (k == 1) = false := beq_eq_false_iff_ne.2 h1
     have e2_ : (k == 2) = false := beq_eq_false_iff_ne.2 h2
     have e3_ : (k == 3) = false := beq_eq_false_iff_ne.2 h3
     have e4_ : (k == 4) = true := beq_iff_eq.2 h4
     have HK := Aside0.mk h4
     clear h1 h2 h3 h4
     go_wp2_with (first
 | ((with_reducible refine gate_dst (N := 2) rfl ?_);
    refine new_box rfl H (cs := [.slice A l.length c, .bool dn, .int .i64 fu, .int .i64 fa]) (t := 24) ?hr ?_;
    (case hr => first | (go_simp; done) | (go_simp; rfl));
    intro gd wd46 n_;
    simp only [Act.put, List.setIfInBounds_toArray, List.set_cons_zero, List.set_cons_succ];
    clear H;
    have H := n_;
    clear n_;
    have c_d := H.out.cell (g := gd) mem0)
 | ((with_reducible refine gate_dst (N := 3) rfl ?_);
    refine new_box rfl H (cs := [.int .u8 k, .string nm, .string dt, .int .i64 n]) (t := 38) ?hr ?_;
    (case hr => first | (go_simp; done) | (go_simp; rfl));
    intro gs wd47 n_;
    simp only [Act.put, List.setIfInBounds_toArray, List.set_cons_zero, List.set_cons_succ];
    clear H c_d;
    have H := n_;
    clear n_;
    have c_s := H.out.cell (g := gs) mem0;
    have c_d := H.out.cell (g := gd) mem1)
 | ((with_reducible refine gate_dst (N := 4) rfl ?_);
    refine new_box rfl H (cs := [.slice none 0 0, .bool false, .int .i64 0, .int .i64 0]) (t := 24) ?hr ?_;
    (case hr => first | (go_simp; done) | (go_simp; rfl));
    intro gz wd48 n_;
    simp only [Act.put, List.setIfInBounds_toArray, List.set_cons_zero, List.set_cons_succ];
    clear H c_s c_d;
    have H := n_;
    clear n_;
    have c_z := H.out.cell (g := gz) mem0;
    have z_z := H.out.frozen (g := gz) mem0;
    have c_s := H.out.cell (g := gs) mem1;
    have c_d := H.out.cell (g := gd) mem2)
 | fail)
     have h_ : cutF l dn fu fa nm n = (l2, dn2, fu2, fa2, e2) := by rw [← HD.out, HK.out]; rfl
     refine ((disk_Cut.calls A c l dn fu fa nm n l2 dn2 fu2 fa2 e2 _ (H.out.came HRp.out) HCp.out (congrArg some h_)).mono ?_)
     rintro e wd49 ⟨v_, rfl, ho_, hb_⟩
     obtain ⟨Ao, co, eo_⟩ := Kd.R_slice ho_
     subst eo_
     have n_ : Aside0 (Sep w wd49 [row k43 43 (.slice Ao (l2).length co) l2, box gz [.slice none 0 0, .bool false, .int .i64 0, .int .i64 0] 24, box gs [.int .u8 k, .string nm, .string dt, .int .i64 n] 38, box gd [.slice A l.length c, .bool dn, .int .i64 fu, .int .i64 fa] 24]) := ⟨Sep.push_row H.out hb_ ho_ k43_flat⟩
     clear H c_z z_z c_s c_d
     have H := n_
     clear n_
     have c_z := H.out.cell (g := gz) mem1
     have z_z := H.out.frozen (g := gz) mem1
     have c_s := H.out.cell (g := gs) mem2
     have c_d := H.out.cell (g := gd) mem3
     clear ho_ hb_
     go_wp2_with (first
 | ((with_reducible refine gate_store (t := 24) (p := 4) rfl ?_);
    refine put_box (rs1 := [row k43 43 (.slice Ao (l2).length co) l2, box gz [.slice Ao (l2).length co, .bool dn2, .int .i64 fu2, .int .i64 fa2] 24, box gs [.int .u8 k, .string nm, .string dt, .int .i64 n] 38, box gd [.slice A l.length c, .bool dn, .int .i64 fu, .int .i64 fa] 24]) rfl (t := 24) (p := 4) rfl rfl ?hr (H1 := (Sep.set1 (Sep.set1 (Sep.set1 (Sep.set1 H.out 0 (.slice Ao (l2).length co) rfl) 1 (.bool dn2) rfl) 2 (.int .i64 fu2) rfl) 3 (.int .i64 fa2) rfl)) ?_;
    (case hr => first | (go_simp; done) | (go_simp; rfl));
    intro wd50 n_;
    clear H c_z z_z c_s c_d;
    have H := n_;
    clear n_;
    have c_z := H.out.cell (g := gz) mem1;
    have z_z := H.out.frozen (g := gz) mem1;
    have c_s := H.out.cell (g := gs) mem2;
    have c_d := H.out.cell (g := gd) mem3)
 | fail)
     (try simp only [Exit.inBlock, Exit.then])
     refine bodyPost_ret (results_ct rfl _ _ gz 24 #[.slice Ao (l2).length co, .bool dn2, .int .i64 fu2, .int .i64 fa2] (0, 0) _ rfl (H.out.box_ mem1) Try.underlying24 rfl (by kernel_rfl)) rfl ?_
     exact ⟨_, rfl, sep_own H.out mem0 k43_flat2, H.out.below⟩
    ·
     by_cases h5 : k = 5
     ·
      have e1_ : (k == 1) = false := beq_eq_false_iff_ne.2 h1
      have e2_ : (k == 2) = false := beq_eq_false_iff_ne.2 h2
      have e3_ : (k == 3) = false := beq_eq_false_iff_ne.2 h3
      have e4_ : (k == 4) = false := beq_eq_false_iff_ne.2 h4
      have e5_ : (k == 5) = true := beq_iff_eq.2 h5
      have HK := Aside0.mk h5
      clear h1 h2 h3 h4 h5
      go_wp2_with (first
 | ((with_reducible refine gate_dst (N := 2) rfl ?_);
    refine new_box rfl H (cs := [.slice A l.length c, .bool dn, .int .i64 fu, .int .i64 fa]) (t := 24) ?hr ?_;
    (case hr => first | (go_simp; done) | (go_simp; rfl));
    intro gd wd51 n_;
    simp only [Act.put, List.setIfInBounds_toArray, List.set_cons_zero, List.set_cons_succ];
    clear H;
    have H := n_;
    clear n_;
    have c_d := H.out.cell (g := gd) mem0)
 | ((with_reducible refine gate_dst (N := 3) rfl ?_);
    refine new_box rfl H (cs := [.int .u8 k, .string nm, .string dt, .int .i64 n]) (t := 38) ?hr ?_;
    (case hr => first | (go_simp; done) | (go_simp; rfl));
    intro gs wd52 n_;
    simp only [Act.put, List.setIfInBounds_toArray, List.set_cons_zero, List.set_cons_succ];
    clear H c_d;
    have H := n_;
    clear n_;
    have c_s := H.out.cell (g := gs) mem0;
    have c_d := H.out.cell (g := gd) mem1)
 | ((with_reducible refine gate_dst (N := 4) rfl ?_);
    refine new_box rfl H (cs := [.slice none 0 0, .bool false, .int .i64 0, .int .i64 0]) (t := 24) ?hr ?_;
    (case hr => first | (go_simp; done) | (go_simp; rfl));
    intro gz wd53 n_;
    simp only [Act.put, List.setIfInBounds_toArray, List.set_cons_zero, List.set_cons_succ];
    clear H c_s c_d;
    have H := n_;
    clear n_;
    have c_z := H.out.cell (g := gz) mem0;
    have z_z := H.out.frozen (g := gz) mem0;
    have c_s := H.out.cell (g := gs) mem1;
    have c_d := H.out.cell (g := gd) mem2)
 | fail)
      have h_ : removeF l dn fu fa nm = (l2, dn2, fu2, fa2, e2) := by rw [← HD.out, HK.out]; rfl
      refine ((disk_Remove.calls A c l dn fu fa nm l2 dn2 fu2 fa2 e2 _ (H.out.came HRp.out) HCp.out (congrArg some h_)).mono ?_)
      rintro e wd54 ⟨v_, rfl, ho_, hb_⟩
      obtain ⟨Ao, co, eo_⟩ := Kd.R_slice ho_
      subst eo_
      have n_ : Aside0 (Sep w wd54 [row k43 43 (.slice Ao (l2).length co) l2, box gz [.slice none 0 0, .bool false, .int .i64 0, .int .i64 0] 24, box gs [.int .u8 k, .string nm, .string dt, .int .i64 n] 38, box gd [.slice A l.length c, .bool dn, .int .i64 fu, .int .i64 fa] 24]) := ⟨Sep.push_row H.out hb_ ho_ k43_flat⟩
      clear H c_z z_z c_s c_d
      have H := n_
      clear n_
      have c_z := H.out.cell (g := gz) mem1
      have z_z := H.out.frozen (g := gz) mem1
      have c_s := H.out.cell (g := gs) mem2
      have c_d := H.out.cell (g := gd) mem3
      clear ho_ hb_
      go_wp2_with (first
 | ((with_reducible refine gate_store (t := 24) (p := 4) rfl ?_);
    refine put_box (rs1 := [row k43 43 (.slice Ao (l2).length co) l2, box gz [.slice Ao (l2).length co, .bool dn2, .int .i64 fu2, .int .i64 fa2] 24, box gs [.int .u8 k, .string nm, .string dt, .int .i64 n] 38, box gd [.slice A l.length c, .bool dn, .int .i64 fu, .int .i64 fa] 24]) rfl (t := 24) (p := 4) rfl rfl ?hr (H1 := (Sep.set1 (Sep.set1 (Sep.set1 (Sep.set1 H.out 0 (.slice Ao (l2).length co) rfl) 1 (.bool dn2) rfl) 2 (.int .i64 fu2) rfl) 3 (.int .i64 fa2) rfl)) ?_;
    (case hr => first | (go_simp; done) | (go_simp; rfl));
    intro wd55 n_;
    clear H c_z z_z c_s c_d;
    have H := n_;
    clear n_;
    have c_z := H.out.cell (g := gz) mem1;
    have z_z := H.out.frozen (g := gz) mem1;
    have c_s := H.out.cell (g := gs) mem2;
    have c_d := H.out.cell (g := gd) mem3)
 | fail)
      (try simp only [Exit.inBlock, Exit.then])
      refine bodyPost_ret (results_ct rfl _ _ gz 24 #[.slice Ao (l2).length co, .bool dn2, .int .i64 fu2, .int .i64 fa2] (0, 0) _ rfl (H.out.box_ mem1) Try.underlying24 rfl (by kernel_rfl)) rfl ?_
      exact ⟨_, rfl, sep_own H.out mem0 k43_flat2, H.out.below⟩
     ·
      have e1_ : (k == 1) = false := beq_eq_false_iff_ne.2 h1
      have e2_ : (k == 2) = false := beq_eq_false_iff_ne.2 h2
      have e3_ : (k == 3) = false := beq_eq_false_iff_ne.2 h3
      have e4_ : (k == 4) = false := beq_eq_false_iff_ne.2 h4
      have e5_ : (k == 5) = false := beq_eq_false_iff_ne.2 h5
      clear h1 h2 h3 h4 h5
      go_wp2_with (first
 | ((with_reducible refine gate_dst (N := 2) rfl ?_);
    refine new_box rfl H (cs := [.slice A l.length c, .bool dn, .int .i64 fu, .int .i64 fa]) (t := 24) ?hr ?_;
    (case hr => first | (go_simp; done) | (go_simp; rfl));
    intro gd wd56 n_;
    simp only [Act.put, List.setIfInBounds_toArray, List.set_cons_zero, List.set_cons_succ];
    clear H;
    have H := n_;
    clear n_;
    have c_d := H.out.cell (g := gd) mem0)
 | ((with_reducible refine gate_dst (N := 3) rfl ?_);
    refine new_box rfl H (cs := [.int .u8 k, .string nm, .string dt, .int .i64 n]) (t := 38) ?hr ?_;
    (case hr => first | (go_simp; done) | (go_simp; rfl));
    intro gs wd57 n_;
    simp only [Act.put, List.setIfInBounds_toArray, List.set_cons_zero, List.set_cons_succ];
    clear H c_d;
    have H := n_;
    clear n_;
    have c_s := H.out.cell (g := gs) mem0;
    have c_d := H.out.cell (g := gd) mem1)
 | ((with_reducible refine gate_dst (N := 4) rfl ?_);
    refine new_box rfl H (cs := [.slice none 0 0, .bool false, .int .i64 0, .int .i64 0]) (t := 24) ?hr ?_;
    (case hr => first | (go_simp; done) | (go_simp; rfl));
    intro gz wd58 n_;
    simp only [Act.put, List.setIfInBounds_toArray, List.set_cons_zero, List.set_cons_succ];
    clear H c_s c_d;
    have H := n_;
    clear n_;
    have c_z := H.out.cell (g := gz) mem0;
    have z_z := H.out.frozen (g := gz) mem0;
    have c_s := H.out.cell (g := gs) mem1;
    have c_d := H.out.cell (g := gd) mem2)
 | fail)
      refine ((disk_Do.calls A c l dn fu fa k nm dt n l2 dn2 fu2 fa2 e2 _ (H.out.came HRp.out) HCp.out (by rw [disk_Do_eq, HD.out])).mono ?_)
      rintro e wd59 ⟨v_, rfl, ho_, hb_⟩
      obtain ⟨Ao, co, eo_⟩ := Kd.R_slice ho_
      subst eo_
      have n_ : Aside0 (Sep w wd59 [row k43 43 (.slice Ao (l2).length co) l2, box gz [.slice none 0 0, .bool false, .int .i64 0, .int .i64 0] 24, box gs [.int .u8 k, .string nm, .string dt, .int .i64 n] 38, box gd [.slice A l.length c, .bool dn, .int .i64 fu, .int .i64 fa] 24]) := ⟨Sep.push_row H.out hb_ ho_ k43_flat⟩
      clear H c_z z_z c_s c_d
      have H := n_
      clear n_
      have c_z := H.out.cell (g := gz) mem1
      have z_z := H.out.frozen (g := gz) mem1
      have c_s := H.out.cell (g := gs) mem2
      have c_d := H.out.cell (g := gd) mem3
      clear ho_ hb_
      go_wp2_with (first
 | ((with_reducible refine gate_store (t := 24) (p := 4) rfl ?_);
    refine put_box (rs1 := [row k43 43 (.slice Ao (l2).length co) l2, box gz [.slice Ao (l2).length co, .bool dn2, .int .i64 fu2, .int .i64 fa2] 24, box gs [.int .u8 k, .string nm, .string dt, .int .i64 n] 38, box gd [.slice A l.length c, .bool dn, .int .i64 fu, .int .i64 fa] 24]) rfl (t := 24) (p := 4) rfl rfl ?hr (H1 := (Sep.set1 (Sep.set1 (Sep.set1 (Sep.set1 H.out 0 (.slice Ao (l2).length co) rfl) 1 (.bool dn2) rfl) 2 (.int .i64 fu2) rfl) 3 (.int .i64 fa2) rfl)) ?_;
    (case hr => first | (go_simp; done) | (go_simp; rfl));
    intro wd60 n_;
    clear H c_z z_z c_s c_d;
    have H := n_;
    clear n_;
    have c_z := H.out.cell (g := gz) mem1;
    have z_z := H.out.frozen (g := gz) mem1;
    have c_s := H.out.cell (g := gs) mem2;
    have c_d := H.out.cell (g := gd) mem3)
 | fail)
      (try simp only [Exit.inBlock, Exit.then])
      refine bodyPost_ret (results_ct rfl _ _ gz 24 #[.slice Ao (l2).length co, .bool dn2, .int .i64 fu2, .int .i64 fa2] (0, 0) _ rfl (H.out.box_ mem1) Try.underlying24 rfl (by kernel_rfl)) rfl ?_
      exact ⟨_, rfl, sep_own H.out mem0 k43_flat2, H.out.below⟩

end Go.Proofs.Ytanonhipicoigaa.T

namespace Go.Proofs.Ytanonhipicoigaa.T
open Go.RowKit Go.Proofs.YtanonhipicoigaaW.PrintWords Go.Proofs.YtanonhipicoigaaW.PrintLast Go.Proofs.YtanonhipicoigaaW.PrintMore Go.Proofs.Ytanonhipicoigaa.Sp
set_option linter.unusedVariables false
set_option linter.unusedSimpArgs false

theorem ref_new {l : List S43} (h : rightF l = true) {s d : ByteArray} {n : Int} (hr : refF l 1 s d n = 0) : ∀ x ∈ l, x.f0.toList ≠ s.toList := by
 rw [refF, if_pos rfl, rfC] at hr
 intro x hx e
 rw [(isAt_iff l s (bsOf l s)).2 ⟨x, bs_found h s hx e, e⟩] at hr
 split at hr <;> simp at hr
theorem ref_app {l : List S43} (h : rightF l = true) {s d : ByteArray} {n : Int} (hr : refF l 2 s d n = 0) {x : S43} (hx : x ∈ l) (e : x.f0.toList = s.toList) : (d.size : Int) ≤ 262144 - (x.f1.size : Int) := by
 have hf := bs_found h s hx e
 rw [refF, if_neg (by decide), if_pos ((isAt_iff l s (bsOf l s)).2 ⟨x, hf, e⟩), if_pos rfl, rfW, if_pos rfl, rd_get hf] at hr
 split at hr
 ·
  simp at hr
 ·
  omega
theorem ref_cut {l : List S43} (h : rightF l = true) {s d : ByteArray} {n : Int} (hr : refF l 4 s d n = 0) {x : S43} (hx : x ∈ l) (e : x.f0.toList = s.toList) : 0 ≤ n ∧ n ≤ (x.f1.size : Int) := by
 have hf := bs_found h s hx e
 rw [refF, if_neg (by decide), if_pos ((isAt_iff l s (bsOf l s)).2 ⟨x, hf, e⟩), if_neg (by decide), if_pos rfl, rfT, if_pos rfl, rd_get hf] at hr
 split at hr
 ·
  simp at hr
 ·
  omega
set_option maxHeartbeats 8000000 in
set_option maxRecDepth 100000 in
theorem rDone.calls (A : Option Addr) (c : Nat) (l : List S43) (dn : Bool) (fu fa : Int) (k : Int) (nm dt : ByteArray) (n : Int) (w : World) (hr : Kd.C k43 w A l.length l) (hc : l.length ≤ c) (hok : rightF l = true) (hk0 : 1 ≤ k) (hk5 : k ≤ 5) (hr0 : refF l k nm dt n = 0) :
  Calls Try.prog 40 #[.agg #[.slice A l.length c, .bool dn, .int .i64 fu, .int .i64 fa], .agg #[.int .u8 k, .string nm, .string dt, .int .i64 n]] w fun e w' => ∃ v_ : Value, e = .returned (.agg #[v_, .bool dn, .int .i64 fu, .int .i64 fa]) ∧ Kd.R k43 43 w' w.heap.size (fun _ => True) v_ (dfF l k nm dt n) ∧ Below w.heap.size w w' := by
 have HOK := Aside0.mk hok
 have HR0 := Aside0.mk hr0
 have HDR := Aside0.mk (done_right hok k nm dt n hk0 hk5 hr0)
 have HDL := Aside0.mk (df_len l k nm dt n)
 have hmax : l.length ≤ 64 := right_len hok
 clear hok hr0
 obtain ⟨R, hR⟩ : ∃ R, R = dfF l k nm dt n := ⟨_, rfl⟩
 rw [← hR] at HDR HDL ⊢
 clear hR
 have HRp := Aside0.mk hr
 have HCp := Aside0.mk hc
 have HMX := Aside0.mk (Kd.C_max hr)
 clear hr hc
 have H := Aside0.mk (Sep.start w)
 go_enter Try.func40, Try.ntmps40
 go_wp2_with (first
 | ((with_reducible refine gate_dst (N := 2) rfl ?_);
    refine new_box rfl H (cs := [.slice A l.length c, .bool dn, .int .i64 fu, .int .i64 fa]) (t := 24) ?hr ?_;
    (case hr => first | (go_simp; done) | (go_simp; rfl));
    intro gd wd61 n_;
    simp only [Act.put, List.setIfInBounds_toArray, List.set_cons_zero, List.set_cons_succ];
    clear H;
    have H := n_;
    clear n_;
    have c_d := H.out.cell (g := gd) mem0;
    have z_d := H.out.frozen (g := gd) mem0)
 | ((with_reducible refine gate_dst (N := 3) rfl ?_);
    refine new_box rfl H (cs := [.int .u8 k, .string nm, .string dt, .int .i64 n]) (t := 38) ?hr ?_;
    (case hr => first | (go_simp; done) | (go_simp; rfl));
    intro gs wd62 n_;
    simp only [Act.put, List.setIfInBounds_toArray, List.set_cons_zero, List.set_cons_succ];
    clear H c_d z_d;
    have H := n_;
    clear n_;
    have c_s := H.out.cell (g := gs) mem0;
    have c_d := H.out.cell (g := gd) mem1;
    have z_d := H.out.frozen (g := gd) mem1)
 | ((with_reducible refine gate_dst (N := 4) rfl ?_);
    refine new_box rfl H (cs := [.slice none 0 0, .bool false, .int .i64 0, .int .i64 0]) (t := 24) ?hr ?_;
    (case hr => first | (go_simp; done) | (go_simp; rfl));
    intro gz wd63 n_;
    simp only [Act.put, List.setIfInBounds_toArray, List.set_cons_zero, List.set_cons_succ];
    clear H c_s c_d z_d;
    have H := n_;
    clear n_;
    have c_z := H.out.cell (g := gz) mem0;
    have z_z := H.out.frozen (g := gz) mem0;
    have c_s := H.out.cell (g := gs) mem1;
    have c_d := H.out.cell (g := gd) mem2;
    have z_d := H.out.frozen (g := gd) mem2)
 | fail)
 refine ((penstockref09_Copy.calls A c l dn fu fa l dn fu fa _ (H.out.came HRp.out) HCp.out (copy_any (by omega) dn fu fa)).mono ?_)
 rintro e wd64 ⟨v_, rfl, ho_, hb_⟩
 obtain ⟨Aq, cq, eo_⟩ := Kd.R_slice ho_
 subst eo_
 have n_ : Aside0 (Sep w wd64 [row k43 43 (.slice Aq (l).length cq) l, box gz [.slice none 0 0, .bool false, .int .i64 0, .int .i64 0] 24, box gs [.int .u8 k, .string nm, .string dt, .int .i64 n] 38, box gd [.slice A l.length c, .bool dn, .int .i64 fu, .int .i64 fa] 24]) := ⟨Sep.push_row H.out hb_ ho_ k43_flat⟩
 clear H c_z z_z c_s c_d z_d
 have H := n_
 clear n_
 have c_z := H.out.cell (g := gz) mem1
 have z_z := H.out.frozen (g := gz) mem1
 have c_s := H.out.cell (g := gs) mem2
 have c_d := H.out.cell (g := gd) mem3
 have z_d := H.out.frozen (g := gd) mem3
 clear ho_ hb_
 by_cases hk1 : k = 1
 ·
  have e1_ : (k != 1) = false := bne_eq_false_iff_eq.2 hk1
  have HK1 := Aside0.mk hk1
  clear hk1
  go_wp2_with (first
 | ((with_reducible refine gate_store (t := 24) (p := 2) rfl ?_);
    refine put_box (rs1 := [row k43 43 (.slice Aq (l).length cq) l, box gz [.slice none 0 0, .bool false, .int .i64 0, .int .i64 0] 24, box gs [.int .u8 k, .string nm, .string dt, .int .i64 n] 38, box gd [.slice Aq (l).length cq, .bool dn, .int .i64 fu, .int .i64 fa] 24]) rfl (t := 24) (p := 2) rfl rfl ?hr (H1 := (Sep.set3 (Sep.set3 (Sep.set3 (Sep.set3 H.out 0 (.slice Aq (l).length cq) rfl) 1 (.bool dn) rfl) 2 (.int .i64 fu) rfl) 3 (.int .i64 fa) rfl)) ?_;
    (case hr => first | (go_simp; done) | (go_simp; rfl));
    intro wd65 n_;
    clear H c_z z_z c_s c_d z_d;
    have H := n_;
    clear n_;
    have c_z := H.out.cell (g := gz) mem1;
    have z_z := H.out.frozen (g := gz) mem1;
    have c_s := H.out.cell (g := gs) mem2;
    have c_d := H.out.cell (g := gd) mem3;
    have z_d := H.out.frozen (g := gd) mem3)
 | fail)
  go_loopw [5, 6, 17] (fun v5 v6 v17 wr => ∃ (i : Nat) (o : List S43) (Ao : Option Addr) (co : Nat) (put : Bool) , v5 = .slice Ao (o).length co ∧ v6 = .bool put ∧ v17 = .int .i64 (i : Int) ∧ i ≤ l.length ∧ Aside0 (o ++ doneL k nm dt n put (l.drop i) = R) ∧ Aside0 (Sep w wr [box gd [.slice Aq (l).length cq, .bool dn, .int .i64 fu, .int .i64 fa] 24, box gs [.int .u8 k, .string nm, .string dt, .int .i64 n] 38, box gz [.slice none 0 0, .bool false, .int .i64 0, .int .i64 0] 24, row k43 43 (.slice Ao (o).length co) o, row k43 43 (.slice Aq (l).length cq) l]))
   (fun _ _ v17 _ => l.length - (intOf v17).toNat)
  case atStart => exact ⟨0, [], none, 0, false, rfl, rfl, rfl, by omega, ⟨by have h := HDR.out; rw [show (k != 1) = false by rw [HK1.out]; rfl] at h; exact h⟩, ⟨(Sep.front4 (Sep.front3 (Sep.front2 (Sep.front1 (Sep.front1 (Sep.push_nil H.out))))))⟩⟩
  case round =>
   clear H c_z z_z c_s c_d z_d
   obtain ⟨i, o, Ao, co, put, rfl, rfl, rfl, hi, HG, H⟩ := hrel
   have c_d := H.out.cell (g := gd) mem0
   have z_d := H.out.frozen (g := gd) mem0
   have c_s := H.out.cell (g := gs) mem1
   have c_z := H.out.cell (g := gz) mem2
   have z_z := H.out.frozen (g := gz) mem2
   by_cases hil : i < l.length
   ·
    obtain ⟨x, hx, hdx⟩ := dropx hil
    obtain ⟨ad, e1⟩ : ∃ ad, Aq = some ad := (at_T43 (H.out.reads mem4).2.2 (i : Int) (by omega) (by omega)).imp fun _ h => h.1
    subst e1
    obtain ⟨h0, h1, h2⟩ := at43 (H.out.reads mem4).2.2 hx
    have HM := Aside0.mk (List.mem_of_getElem? hx)
    have HDX := Aside0.mk hdx
    clear hx hdx
    have hi0 : (0 : Int) ≤ (i : Int) := by omega
    have hi1 : (i : Int) < (l.length : Int) := by omega
    have HOL : Aside0 (o.length ≤ 65) := ⟨by have h := congrArg List.length HG.out; have h2 := HDL.out; rw [List.length_append] at h; omega⟩
    have HNE := Aside0.mk (ref_new (n := n) (d := dt) HOK.out (by rw [← HK1.out]; exact HR0.out) x HM.out)
    have hq : (x.f0.toList == nm.toList) = false := beq_eq_false_iff_ne.2 HNE.out
    cases put
    ·
     cases hls : Op.bytesLess nm.toList x.f0.toList
     ·
      have hls2 : Op.bytesLess x.f0.toList nm.toList = true := by
       rcases bl_total nm.toList x.f0.toList with h | h | h
       ·
        rw [h] at hls; cases hls
       ·
        exact absurd h.symm HNE.out
       ·
        exact h
      go_wp2_with (first
 | ((with_reducible refine gate_dst (N := 8) rfl ?_);
    refine new_box rfl H (cs := [.string ⟨#[]⟩, .string ⟨#[]⟩, .int .i64 0]) (t := 43) ?hr ?_;
    (case hr => first | (go_simp; done) | (go_simp; rfl));
    intro gf wd66 n_;
    simp only [Act.put, List.setIfInBounds_toArray, List.set_cons_zero, List.set_cons_succ];
    clear H c_d z_d c_s c_z z_z;
    have H := n_;
    clear n_;
    have c_f := H.out.cell (g := gf) mem0;
    have z_f := H.out.frozen (g := gf) mem0;
    have c_d := H.out.cell (g := gd) mem1;
    have z_d := H.out.frozen (g := gd) mem1;
    have c_s := H.out.cell (g := gs) mem2;
    have c_z := H.out.cell (g := gz) mem3;
    have z_z := H.out.frozen (g := gz) mem3)
 | ((with_reducible refine gate_store (t := 43) (p := 8) rfl ?_);
    refine put_box (rs1 := [box gf [.string x.f0, .string x.f1, .int .i64 x.f2] 43, box gd [.slice (some ad) (l).length cq, .bool dn, .int .i64 fu, .int .i64 fa] 24, box gs [.int .u8 k, .string nm, .string dt, .int .i64 n] 38, box gz [.slice none 0 0, .bool false, .int .i64 0, .int .i64 0] 24, row k43 43 (.slice Ao (o).length co) o, row k43 43 (.slice (some ad) (l).length cq) l]) rfl (t := 43) (p := 8) rfl rfl ?hr (H1 := (Sep.set0 (Sep.set0 (Sep.set0 H.out 0 (.string x.f0) rfl) 1 (.string x.f1) rfl) 2 (.int .i64 x.f2) rfl)) ?_;
    (case hr => first | (go_simp; done) | (go_simp; rfl));
    intro wd67 n_;
    clear H c_f z_f c_d z_d c_s c_z z_z;
    have H := n_;
    clear n_;
    have c_f := H.out.cell (g := gf) mem0;
    have z_f := H.out.frozen (g := gf) mem0;
    have c_d := H.out.cell (g := gd) mem1;
    have z_d := H.out.frozen (g := gd) mem1;
    have c_s := H.out.cell (g := gs) mem2;
    have c_z := H.out.cell (g := gz) mem3;
    have z_z := H.out.frozen (g := gz) mem3;
    clear h0 h1 h2)
 | ((with_reducible refine gate_builtin (b := .append) (xs := #[.tmp 70, .tmp 72]) rfl ?_); at_builtin;
    refine app_row4 k43 flat_43 rfl (.tmp 70) (.tmp 72) 22 43 (.agg #[(.string ⟨#[]⟩), (.string ⟨#[]⟩), (.int .i64 0)]) 40 rfl Try.underlying22 info43 rfl (by decide) (by omega) (.slice Ao (o).length co) _ ((⟨x.f0, x.f1, x.f2⟩ : S43)) [.string x.f0, .string x.f1, .int .i64 x.f2] ?hs ?hx ?hp H ?hl ?_;
    (case hs => first | rfl | (go_simp; done) | (simp; rfl));
    (case hx => first | (go_simp; done) | (go_simp; rfl));
    (case hp => exact k43_mkM _ _ _ _);
    (case hl => (have := HOL.out; (try simp only [List.length_append, List.length_cons, List.length_nil]); omega));
    intro Ao2 co2 wd68 n_;
    clear H c_f z_f c_d z_d c_s c_z z_z;
    have H := n_;
    clear n_;
    have c_f := H.out.cell (g := gf) mem0;
    have z_f := H.out.frozen (g := gf) mem0;
    have c_d := H.out.cell (g := gd) mem1;
    have z_d := H.out.frozen (g := gd) mem1;
    have c_s := H.out.cell (g := gs) mem2;
    have c_z := H.out.cell (g := gz) mem3;
    have z_z := H.out.frozen (g := gz) mem3)
 | fail)
      refine ⟨⟨i + 1, (o ++ [(⟨x.f0, x.f1, x.f2⟩ : S43)]), Ao2, co2, false, by simp, by rfl, by congr 1, by omega, ⟨?_⟩, ⟨?_⟩⟩, by simp [intOf]; omega⟩
      ·
       have hG := HG.out
       rw [HDX.out, doneL, if_neg (by simp [hls]), if_neg HNE.out, hls] at hG
       simpa using hG
      ·
       exact (Sep.drop0 H.out)
     ·
      have hls2 : Op.bytesLess x.f0.toList nm.toList = false := bl_asymm _ _ hls
      go_wp2_with (first
 | ((with_reducible refine gate_dst (N := 8) rfl ?_);
    refine new_box rfl H (cs := [.string ⟨#[]⟩, .string ⟨#[]⟩, .int .i64 0]) (t := 43) ?hr ?_;
    (case hr => first | (go_simp; done) | (go_simp; rfl));
    intro gf wd69 n_;
    simp only [Act.put, List.setIfInBounds_toArray, List.set_cons_zero, List.set_cons_succ];
    clear H c_d z_d c_s c_z z_z;
    have H := n_;
    clear n_;
    have c_f := H.out.cell (g := gf) mem0;
    have z_f := H.out.frozen (g := gf) mem0;
    have c_d := H.out.cell (g := gd) mem1;
    have z_d := H.out.frozen (g := gd) mem1;
    have c_s := H.out.cell (g := gs) mem2;
    have c_z := H.out.cell (g := gz) mem3;
    have z_z := H.out.frozen (g := gz) mem3)
 | ((with_reducible refine gate_store (t := 43) (p := 8) rfl ?_);
    refine put_box (rs1 := [box gf [.string x.f0, .string x.f1, .int .i64 x.f2] 43, box gd [.slice (some ad) (l).length cq, .bool dn, .int .i64 fu, .int .i64 fa] 24, box gs [.int .u8 k, .string nm, .string dt, .int .i64 n] 38, box gz [.slice none 0 0, .bool false, .int .i64 0, .int .i64 0] 24, row k43 43 (.slice Ao (o).length co) o, row k43 43 (.slice (some ad) (l).length cq) l]) rfl (t := 43) (p := 8) rfl rfl ?hr (H1 := (Sep.set0 (Sep.set0 (Sep.set0 H.out 0 (.string x.f0) rfl) 1 (.string x.f1) rfl) 2 (.int .i64 x.f2) rfl)) ?_;
    (case hr => first | (go_simp; done) | (go_simp; rfl));
    intro wd70 n_;
    clear H c_f z_f c_d z_d c_s c_z z_z;
    have H := n_;
    clear n_;
    have c_f := H.out.cell (g := gf) mem0;
    have z_f := H.out.frozen (g := gf) mem0;
    have c_d := H.out.cell (g := gd) mem1;
    have z_d := H.out.frozen (g := gd) mem1;
    have c_s := H.out.cell (g := gs) mem2;
    have c_z := H.out.cell (g := gz) mem3;
    have z_z := H.out.frozen (g := gz) mem3;
    clear h0 h1 h2)
 | ((with_reducible refine gate_builtin (b := .append) (xs := #[.tmp 30, .tmp 34]) rfl ?_); at_builtin;
    refine app_row4 k43 flat_43 rfl (.tmp 30) (.tmp 34) 22 43 (.agg #[(.string ⟨#[]⟩), (.string ⟨#[]⟩), (.int .i64 0)]) 40 rfl Try.underlying22 info43 rfl (by decide) (by omega) (.slice Ao (o).length co) _ ((⟨nm, ⟨#[]⟩, 0⟩ : S43)) [.string nm, .string ⟨#[]⟩, .int .i64 0] ?hs ?hx ?hp H ?hl ?_;
    (case hs => first | rfl | (go_simp; done) | (simp; rfl));
    (case hx => first | (go_simp; done) | (go_simp; rfl));
    (case hp => exact k43_mkM _ _ _ _);
    (case hl => (have := HOL.out; (try simp only [List.length_append, List.length_cons, List.length_nil]); omega));
    intro Ao2 co2 wd71 n_;
    clear H c_f z_f c_d z_d c_s c_z z_z;
    have H := n_;
    clear n_;
    have c_f := H.out.cell (g := gf) mem0;
    have z_f := H.out.frozen (g := gf) mem0;
    have c_d := H.out.cell (g := gd) mem1;
    have z_d := H.out.frozen (g := gd) mem1;
    have c_s := H.out.cell (g := gs) mem2;
    have c_z := H.out.cell (g := gz) mem3;
    have z_z := H.out.frozen (g := gz) mem3)
 | ((with_reducible refine gate_builtin (b := .append) (xs := #[.tmp 70, .tmp 72]) rfl ?_); at_builtin;
    refine app_row4 k43 flat_43 rfl (.tmp 70) (.tmp 72) 22 43 (.agg #[(.string ⟨#[]⟩), (.string ⟨#[]⟩), (.int .i64 0)]) 40 rfl Try.underlying22 info43 rfl (by decide) (by omega) (.slice Ao2 ((o ++ [(⟨nm, ⟨#[]⟩, 0⟩ : S43)])).length co2) _ ((⟨x.f0, x.f1, x.f2⟩ : S43)) [.string x.f0, .string x.f1, .int .i64 x.f2] ?hs ?hx ?hp H ?hl ?_;
    (case hs => first | rfl | (go_simp; done) | (simp; rfl));
    (case hx => first | (go_simp; done) | (go_simp; rfl));
    (case hp => exact k43_mkM _ _ _ _);
    (case hl => (have := HOL.out; (try simp only [List.length_append, List.length_cons, List.length_nil]); omega));
    intro Ao3 co3 wd72 n_;
    clear H c_f z_f c_d z_d c_s c_z z_z;
    have H := n_;
    clear n_;
    have c_f := H.out.cell (g := gf) mem0;
    have z_f := H.out.frozen (g := gf) mem0;
    have c_d := H.out.cell (g := gd) mem1;
    have z_d := H.out.frozen (g := gd) mem1;
    have c_s := H.out.cell (g := gs) mem2;
    have c_z := H.out.cell (g := gz) mem3;
    have z_z := H.out.frozen (g := gz) mem3)
 | fail)
      refine ⟨⟨i + 1, ((o ++ [(⟨nm, ⟨#[]⟩, 0⟩ : S43)]) ++ [(⟨x.f0, x.f1, x.f2⟩ : S43)]), Ao3, co3, true, by simp, by rfl, by congr 1, by omega, ⟨?_⟩, ⟨?_⟩⟩, by simp [intOf]; omega⟩
      ·
       have hG := HG.out
       rw [HDX.out, doneL, if_pos ⟨rfl, hls⟩, if_neg HNE.out, hls] at hG
       simpa using hG
      ·
       exact (Sep.drop0 H.out)
    ·
     go_wp2_with (first
 | ((with_reducible refine gate_dst (N := 8) rfl ?_);
    refine new_box rfl H (cs := [.string ⟨#[]⟩, .string ⟨#[]⟩, .int .i64 0]) (t := 43) ?hr ?_;
    (case hr => first | (go_simp; done) | (go_simp; rfl));
    intro gf wd73 n_;
    simp only [Act.put, List.setIfInBounds_toArray, List.set_cons_zero, List.set_cons_succ];
    clear H c_d z_d c_s c_z z_z;
    have H := n_;
    clear n_;
    have c_f := H.out.cell (g := gf) mem0;
    have z_f := H.out.frozen (g := gf) mem0;
    have c_d := H.out.cell (g := gd) mem1;
    have z_d := H.out.frozen (g := gd) mem1;
    have c_s := H.out.cell (g := gs) mem2;
    have c_z := H.out.cell (g := gz) mem3;
    have z_z := H.out.frozen (g := gz) mem3)
 | ((with_reducible refine gate_store (t := 43) (p := 8) rfl ?_);
    refine put_box (rs1 := [box gf [.string x.f0, .string x.f1, .int .i64 x.f2] 43, box gd [.slice (some ad) (l).length cq, .bool dn, .int .i64 fu, .int .i64 fa] 24, box gs [.int .u8 k, .string nm, .string dt, .int .i64 n] 38, box gz [.slice none 0 0, .bool false, .int .i64 0, .int .i64 0] 24, row k43 43 (.slice Ao (o).length co) o, row k43 43 (.slice (some ad) (l).length cq) l]) rfl (t := 43) (p := 8) rfl rfl ?hr (H1 := (Sep.set0 (Sep.set0 (Sep.set0 H.out 0 (.string x.f0) rfl) 1 (.string x.f1) rfl) 2 (.int .i64 x.f2) rfl)) ?_;
    (case hr => first | (go_simp; done) | (go_simp; rfl));
    intro wd74 n_;
    clear H c_f z_f c_d z_d c_s c_z z_z;
    have H := n_;
    clear n_;
    have c_f := H.out.cell (g := gf) mem0;
    have z_f := H.out.frozen (g := gf) mem0;
    have c_d := H.out.cell (g := gd) mem1;
    have z_d := H.out.frozen (g := gd) mem1;
    have c_s := H.out.cell (g := gs) mem2;
    have c_z := H.out.cell (g := gz) mem3;
    have z_z := H.out.frozen (g := gz) mem3;
    clear h0 h1 h2)
 | ((with_reducible refine gate_builtin (b := .append) (xs := #[.tmp 70, .tmp 72]) rfl ?_); at_builtin;
    refine app_row4 k43 flat_43 rfl (.tmp 70) (.tmp 72) 22 43 (.agg #[(.string ⟨#[]⟩), (.string ⟨#[]⟩), (.int .i64 0)]) 40 rfl Try.underlying22 info43 rfl (by decide) (by omega) (.slice Ao (o).length co) _ ((⟨x.f0, x.f1, x.f2⟩ : S43)) [.string x.f0, .string x.f1, .int .i64 x.f2] ?hs ?hx ?hp H ?hl ?_;
    (case hs => first | rfl | (go_simp; done) | (simp; rfl));
    (case hx => first | (go_simp; done) | (go_simp; rfl));
    (case hp => exact k43_mkM _ _ _ _);
    (case hl => (have := HOL.out; (try simp only [List.length_append, List.length_cons, List.length_nil]); omega));
    intro Ao2 co2 wd75 n_;
    clear H c_f z_f c_d z_d c_s c_z z_z;
    have H := n_;
    clear n_;
    have c_f := H.out.cell (g := gf) mem0;
    have z_f := H.out.frozen (g := gf) mem0;
    have c_d := H.out.cell (g := gd) mem1;
    have z_d := H.out.frozen (g := gd) mem1;
    have c_s := H.out.cell (g := gs) mem2;
    have c_z := H.out.cell (g := gz) mem3;
    have z_z := H.out.frozen (g := gz) mem3)
 | fail)
     refine ⟨⟨i + 1, (o ++ [(⟨x.f0, x.f1, x.f2⟩ : S43)]), Ao2, co2, true, by simp, by rfl, by congr 1, by omega, ⟨?_⟩, ⟨?_⟩⟩, by simp [intOf]; omega⟩
     ·
      have hG := HG.out
      rw [HDX.out, doneL, if_neg (by simp), if_neg HNE.out] at hG
      simpa using hG
     ·
      exact (Sep.drop0 H.out)
   ·
    have HOL : Aside0 (o.length ≤ 65) := ⟨by have h := congrArg List.length HG.out; have h2 := HDL.out; rw [List.length_append] at h; omega⟩
    have hG := HG.out
    rw [List.drop_eq_nil_of_le (by omega)] at hG
    cases put
    ·
     have HE := Aside0.mk (show o ++ [(⟨nm, ⟨#[]⟩, 0⟩ : S43)] = R from hG)
     clear hG
     go_wp2_with (first
 | ((with_reducible refine gate_builtin (b := .append) (xs := #[.tmp 77, .tmp 81]) rfl ?_); at_builtin;
    refine app_row3 k43 flat_43 rfl (.tmp 77) (.tmp 81) 22 43 (.agg #[(.string ⟨#[]⟩), (.string ⟨#[]⟩), (.int .i64 0)]) 40 rfl Try.underlying22 info43 rfl (by decide) (by omega) (.slice Ao (o).length co) _ ((⟨nm, ⟨#[]⟩, 0⟩ : S43)) [.string nm, .string ⟨#[]⟩, .int .i64 0] ?hs ?hx ?hp H ?hl ?_;
    (case hs => first | rfl | (go_simp; done) | (simp; rfl));
    (case hx => first | (go_simp; done) | (go_simp; rfl));
    (case hp => exact k43_mkM _ _ _ _);
    (case hl => (have := HOL.out; (try simp only [List.length_append, List.length_cons, List.length_nil]); omega));
    intro Ao2 co2 wd76 n_;
    clear H c_d z_d c_s c_z z_z;
    have H := n_;
    clear n_;
    have c_d := H.out.cell (g := gd) mem0;
    have z_d := H.out.frozen (g := gd) mem0;
    have c_s := H.out.cell (g := gs) mem1;
    have c_z := H.out.cell (g := gz) mem2;
    have z_z := H.out.frozen (g := gz) mem2)
 | ((with_reducible refine gate_store (t := 22) (p := 84) rfl ?_);
    refine put_box (rs1 := [box gd [.slice Ao2 ((o ++ [(⟨nm, ⟨#[]⟩, 0⟩ : S43)])).length co2, .bool dn, .int .i64 fu, .int .i64 fa] 24, box gs [.int .u8 k, .string nm, .string dt, .int .i64 n] 38, box gz [.slice none 0 0, .bool false, .int .i64 0, .int .i64 0] 24, row k43 43 (.slice Ao2 ((o ++ [(⟨nm, ⟨#[]⟩, 0⟩ : S43)])).length co2) ((o ++ [(⟨nm, ⟨#[]⟩, 0⟩ : S43)])), row k43 43 (.slice Aq (l).length cq) l]) rfl (t := 22) (p := 84) rfl rfl ?hr (H1 := (Sep.set0 H.out 0 (.slice Ao2 ((o ++ [(⟨nm, ⟨#[]⟩, 0⟩ : S43)])).length co2) rfl)) ?_;
    (case hr => first | (go_simp; done) | (go_simp; rfl));
    intro wd77 n_;
    clear H c_d z_d c_s c_z z_z;
    have H := n_;
    clear n_;
    have c_d := H.out.cell (g := gd) mem0;
    have z_d := H.out.frozen (g := gd) mem0;
    have c_s := H.out.cell (g := gs) mem1;
    have c_z := H.out.cell (g := gz) mem2;
    have z_z := H.out.frozen (g := gz) mem2)
 | ((with_reducible refine gate_store (t := 24) (p := 4) rfl ?_);
    refine put_box (rs1 := [box gd [.slice Ao2 ((o ++ [(⟨nm, ⟨#[]⟩, 0⟩ : S43)])).length co2, .bool dn, .int .i64 fu, .int .i64 fa] 24, box gs [.int .u8 k, .string nm, .string dt, .int .i64 n] 38, box gz [.slice Ao2 ((o ++ [(⟨nm, ⟨#[]⟩, 0⟩ : S43)])).length co2, .bool dn, .int .i64 fu, .int .i64 fa] 24, row k43 43 (.slice Ao2 ((o ++ [(⟨nm, ⟨#[]⟩, 0⟩ : S43)])).length co2) ((o ++ [(⟨nm, ⟨#[]⟩, 0⟩ : S43)])), row k43 43 (.slice Aq (l).length cq) l]) rfl (t := 24) (p := 4) rfl rfl ?hr (H1 := (Sep.set2 (Sep.set2 (Sep.set2 (Sep.set2 H.out 0 (.slice Ao2 ((o ++ [(⟨nm, ⟨#[]⟩, 0⟩ : S43)])).length co2) rfl) 1 (.bool dn) rfl) 2 (.int .i64 fu) rfl) 3 (.int .i64 fa) rfl)) ?_;
    (case hr => first | (go_simp; done) | (go_simp; rfl));
    intro wd78 n_;
    clear H c_d z_d c_s c_z z_z;
    have H := n_;
    clear n_;
    have c_d := H.out.cell (g := gd) mem0;
    have z_d := H.out.frozen (g := gd) mem0;
    have c_s := H.out.cell (g := gs) mem1;
    have c_z := H.out.cell (g := gz) mem2;
    have z_z := H.out.frozen (g := gz) mem2)
 | fail)
     rw [← HE.out]
     (try simp only [Exit.inBlock, Exit.then])
     refine bodyPost_ret (results_cell_row rfl _ _ gz 24 #[.slice Ao2 ((o ++ [(⟨nm, ⟨#[]⟩, 0⟩ : S43)])).length co2, .bool dn, .int .i64 fu, .int .i64 fa] (0, 0) _ rfl (H.out.box_ mem2) Try.underlying24 rfl (by kernel_rfl)) rfl ?_
     exact ⟨_, rfl, sep_own H.out mem3 k43_flat2, H.out.below⟩
    ·
     have HE := Aside0.mk (show o = R by simpa [doneL] using hG)
     clear hG
     go_wp2_with (first
 | ((with_reducible refine gate_store (t := 22) (p := 84) rfl ?_);
    refine put_box (rs1 := [box gd [.slice Ao (o).length co, .bool dn, .int .i64 fu, .int .i64 fa] 24, box gs [.int .u8 k, .string nm, .string dt, .int .i64 n] 38, box gz [.slice none 0 0, .bool false, .int .i64 0, .int .i64 0] 24, row k43 43 (.slice Ao (o).length co) o, row k43 43 (.slice Aq (l).length cq) l]) rfl (t := 22) (p := 84) rfl rfl ?hr (H1 := (Sep.set0 H.out 0 (.slice Ao (o).length co) rfl)) ?_;
    (case hr => first | (go_simp; done) | (go_simp; rfl));
    intro wd79 n_;
    clear H c_d z_d c_s c_z z_z;
    have H := n_;
    clear n_;
    have c_d := H.out.cell (g := gd) mem0;
    have z_d := H.out.frozen (g := gd) mem0;
    have c_s := H.out.cell (g := gs) mem1;
    have c_z := H.out.cell (g := gz) mem2;
    have z_z := H.out.frozen (g := gz) mem2)
 | ((with_reducible refine gate_store (t := 24) (p := 4) rfl ?_);
    refine put_box (rs1 := [box gd [.slice Ao (o).length co, .bool dn, .int .i64 fu, .int .i64 fa] 24, box gs [.int .u8 k, .string nm, .string dt, .int .i64 n] 38, box gz [.slice Ao (o).length co, .bool dn, .int .i64 fu, .int .i64 fa] 24, row k43 43 (.slice Ao (o).length co) o, row k43 43 (.slice Aq (l).length cq) l]) rfl (t := 24) (p := 4) rfl rfl ?hr (H1 := (Sep.set2 (Sep.set2 (Sep.set2 (Sep.set2 H.out 0 (.slice Ao (o).length co) rfl) 1 (.bool dn) rfl) 2 (.int .i64 fu) rfl) 3 (.int .i64 fa) rfl)) ?_;
    (case hr => first | (go_simp; done) | (go_simp; rfl));
    intro wd80 n_;
    clear H c_d z_d c_s c_z z_z;
    have H := n_;
    clear n_;
    have c_d := H.out.cell (g := gd) mem0;
    have z_d := H.out.frozen (g := gd) mem0;
    have c_s := H.out.cell (g := gs) mem1;
    have c_z := H.out.cell (g := gz) mem2;
    have z_z := H.out.frozen (g := gz) mem2)
 | fail)
     rw [← HE.out]
     (try simp only [Exit.inBlock, Exit.then])
     refine bodyPost_ret (results_cell_row rfl _ _ gz 24 #[.slice Ao (o).length co, .bool dn, .int .i64 fu, .int .i64 fa] (0, 0) _ rfl (H.out.box_ mem2) Try.underlying24 rfl (by kernel_rfl)) rfl ?_
     exact ⟨_, rfl, sep_own H.out mem3 k43_flat2, H.out.below⟩
 ·
  have e1_ : (k != 1) = true := bne_iff_ne.2 hk1
  have HK1 := Aside0.mk hk1
  clear hk1
  go_wp2_with (first
 | ((with_reducible refine gate_store (t := 24) (p := 2) rfl ?_);
    refine put_box (rs1 := [row k43 43 (.slice Aq (l).length cq) l, box gz [.slice none 0 0, .bool false, .int .i64 0, .int .i64 0] 24, box gs [.int .u8 k, .string nm, .string dt, .int .i64 n] 38, box gd [.slice Aq (l).length cq, .bool dn, .int .i64 fu, .int .i64 fa] 24]) rfl (t := 24) (p := 2) rfl rfl ?hr (H1 := (Sep.set3 (Sep.set3 (Sep.set3 (Sep.set3 H.out 0 (.slice Aq (l).length cq) rfl) 1 (.bool dn) rfl) 2 (.int .i64 fu) rfl) 3 (.int .i64 fa) rfl)) ?_;
    (case hr => first | (go_simp; done) | (go_simp; rfl));
    intro wd81 n_;
    clear H c_z z_z c_s c_d z_d;
    have H := n_;
    clear n_;
    have c_z := H.out.cell (g := gz) mem1;
    have z_z := H.out.frozen (g := gz) mem1;
    have c_s := H.out.cell (g := gs) mem2;
    have c_d := H.out.cell (g := gd) mem3;
    have z_d := H.out.frozen (g := gd) mem3)
 | fail)
  go_loopw [5, 6, 17] (fun v5 v6 v17 wr => ∃ (i : Nat) (o : List S43) (Ao : Option Addr) (co : Nat), v5 = .slice Ao (o).length co ∧ v6 = .bool true ∧ v17 = .int .i64 (i : Int) ∧ i ≤ l.length ∧ Aside0 (o ++ doneL k nm dt n true (l.drop i) = R) ∧ Aside0 (Sep w wr [box gd [.slice Aq (l).length cq, .bool dn, .int .i64 fu, .int .i64 fa] 24, box gs [.int .u8 k, .string nm, .string dt, .int .i64 n] 38, box gz [.slice none 0 0, .bool false, .int .i64 0, .int .i64 0] 24, row k43 43 (.slice Ao (o).length co) o, row k43 43 (.slice Aq (l).length cq) l]))
   (fun _ _ v17 _ => l.length - (intOf v17).toNat)
  case atStart => exact ⟨0, [], none, 0, rfl, rfl, rfl, by omega, ⟨by have h := HDR.out; rw [show (k != 1) = true from bne_iff_ne.2 HK1.out] at h; exact h⟩, ⟨(Sep.front4 (Sep.front3 (Sep.front2 (Sep.front1 (Sep.front1 (Sep.push_nil H.out))))))⟩⟩
  case round =>
   clear H c_z z_z c_s c_d z_d
   obtain ⟨i, o, Ao, co, rfl, rfl, rfl, hi, HG, H⟩ := hrel
   have c_d := H.out.cell (g := gd) mem0
   have z_d := H.out.frozen (g := gd) mem0
   have c_s := H.out.cell (g := gs) mem1
   have c_z := H.out.cell (g := gz) mem2
   have z_z := H.out.frozen (g := gz) mem2
   by_cases hil : i < l.length
   ·
    obtain ⟨x, hx, hdx⟩ := dropx hil
    obtain ⟨ad, e1⟩ : ∃ ad, Aq = some ad := (at_T43 (H.out.reads mem4).2.2 (i : Int) (by omega) (by omega)).imp fun _ h => h.1
    subst e1
    obtain ⟨h0, h1, h2⟩ := at43 (H.out.reads mem4).2.2 hx
    have HM := Aside0.mk (List.mem_of_getElem? hx)
    have HDX := Aside0.mk hdx
    clear hx hdx
    have hi0 : (0 : Int) ≤ (i : Int) := by omega
    have hi1 : (i : Int) < (l.length : Int) := by omega
    have HOL : Aside0 (o.length ≤ 65) := ⟨by have h := congrArg List.length HG.out; have h2 := HDL.out; rw [List.length_append] at h; omega⟩
    cases hq : (x.f0.toList == nm.toList)
    ·
     have HNE := Aside0.mk (beq_eq_false_iff_ne.1 hq)
     go_wp2_with (first
 | ((with_reducible refine gate_dst (N := 8) rfl ?_);
    refine new_box rfl H (cs := [.string ⟨#[]⟩, .string ⟨#[]⟩, .int .i64 0]) (t := 43) ?hr ?_;
    (case hr => first | (go_simp; done) | (go_simp; rfl));
    intro gf wd82 n_;
    simp only [Act.put, List.setIfInBounds_toArray, List.set_cons_zero, List.set_cons_succ];
    clear H c_d z_d c_s c_z z_z;
    have H := n_;
    clear n_;
    have c_f := H.out.cell (g := gf) mem0;
    have z_f := H.out.frozen (g := gf) mem0;
    have c_d := H.out.cell (g := gd) mem1;
    have z_d := H.out.frozen (g := gd) mem1;
    have c_s := H.out.cell (g := gs) mem2;
    have c_z := H.out.cell (g := gz) mem3;
    have z_z := H.out.frozen (g := gz) mem3)
 | ((with_reducible refine gate_store (t := 43) (p := 8) rfl ?_);
    refine put_box (rs1 := [box gf [.string x.f0, .string x.f1, .int .i64 x.f2] 43, box gd [.slice (some ad) (l).length cq, .bool dn, .int .i64 fu, .int .i64 fa] 24, box gs [.int .u8 k, .string nm, .string dt, .int .i64 n] 38, box gz [.slice none 0 0, .bool false, .int .i64 0, .int .i64 0] 24, row k43 43 (.slice Ao (o).length co) o, row k43 43 (.slice (some ad) (l).length cq) l]) rfl (t := 43) (p := 8) rfl rfl ?hr (H1 := (Sep.set0 (Sep.set0 (Sep.set0 H.out 0 (.string x.f0) rfl) 1 (.string x.f1) rfl) 2 (.int .i64 x.f2) rfl)) ?_;
    (case hr => first | (go_simp; done) | (go_simp; rfl));
    intro wd83 n_;
    clear H c_f z_f c_d z_d c_s c_z z_z;
    have H := n_;
    clear n_;
    have c_f := H.out.cell (g := gf) mem0;
    have z_f := H.out.frozen (g := gf) mem0;
    have c_d := H.out.cell (g := gd) mem1;
    have z_d := H.out.frozen (g := gd) mem1;
    have c_s := H.out.cell (g := gs) mem2;
    have c_z := H.out.cell (g := gz) mem3;
    have z_z := H.out.frozen (g := gz) mem3;
    clear h0 h1 h2)
 | ((with_reducible refine gate_builtin (b := .append) (xs := #[.tmp 70, .tmp 72]) rfl ?_); at_builtin;
    refine app_row4 k43 flat_43 rfl (.tmp 70) (.tmp 72) 22 43 (.agg #[(.string ⟨#[]⟩), (.string ⟨#[]⟩), (.int .i64 0)]) 40 rfl Try.underlying22 info43 rfl (by decide) (by omega) (.slice Ao (o).length co) _ ((⟨x.f0, x.f1, x.f2⟩ : S43)) [.string x.f0, .string x.f1, .int .i64 x.f2] ?hs ?hx ?hp H ?hl ?_;
    (case hs => first | rfl | (go_simp; done) | (simp; rfl));
    (case hx => first | (go_simp; done) | (go_simp; rfl));
    (case hp => exact k43_mkM _ _ _ _);
    (case hl => (have := HOL.out; (try simp only [List.length_append, List.length_cons, List.length_nil]); omega));
    intro Ao2 co2 wd84 n_;
    clear H c_f z_f c_d z_d c_s c_z z_z;
    have H := n_;
    clear n_;
    have c_f := H.out.cell (g := gf) mem0;
    have z_f := H.out.frozen (g := gf) mem0;
    have c_d := H.out.cell (g := gd) mem1;
    have z_d := H.out.frozen (g := gd) mem1;
    have c_s := H.out.cell (g := gs) mem2;
    have c_z := H.out.cell (g := gz) mem3;
    have z_z := H.out.frozen (g := gz) mem3)
 | fail)
     refine ⟨⟨i + 1, (o ++ [(⟨x.f0, x.f1, x.f2⟩ : S43)]), Ao2, co2, by simp, by rfl, by congr 1, by omega, ⟨?_⟩, ⟨?_⟩⟩, by simp [intOf]; omega⟩
     ·
      have hG := HG.out
      rw [HDX.out, doneL, if_neg (by simp), if_neg HNE.out] at hG
      simpa using hG
     ·
      exact (Sep.drop0 H.out)
    ·
     have HE := Aside0.mk (beq_iff_eq.1 hq)
     by_cases hk2 : k = 2
     ·
      have e2_ : (k == 2) = true := beq_iff_eq.2 hk2
      have HK2 := Aside0.mk hk2
      clear hk2
      have hds := ref_app (n := n) HOK.out (by rw [← HK2.out]; exact HR0.out) HM.out HE.out
      have hds2 : x.f1.size + dt.size ≤ 9223372036854775807 := by omega
      go_wp2_with (first
 | ((with_reducible refine gate_dst (N := 8) rfl ?_);
    refine new_box rfl H (cs := [.string ⟨#[]⟩, .string ⟨#[]⟩, .int .i64 0]) (t := 43) ?hr ?_;
    (case hr => first | (go_simp; done) | (go_simp; rfl));
    intro gf wd85 n_;
    simp only [Act.put, List.setIfInBounds_toArray, List.set_cons_zero, List.set_cons_succ];
    clear H c_d z_d c_s c_z z_z;
    have H := n_;
    clear n_;
    have c_f := H.out.cell (g := gf) mem0;
    have z_f := H.out.frozen (g := gf) mem0;
    have c_d := H.out.cell (g := gd) mem1;
    have z_d := H.out.frozen (g := gd) mem1;
    have c_s := H.out.cell (g := gs) mem2;
    have c_z := H.out.cell (g := gz) mem3;
    have z_z := H.out.frozen (g := gz) mem3)
 | ((with_reducible refine gate_store (t := 43) (p := 8) rfl ?_);
    refine put_box (rs1 := [box gf [.string x.f0, .string x.f1, .int .i64 x.f2] 43, box gd [.slice (some ad) (l).length cq, .bool dn, .int .i64 fu, .int .i64 fa] 24, box gs [.int .u8 k, .string nm, .string dt, .int .i64 n] 38, box gz [.slice none 0 0, .bool false, .int .i64 0, .int .i64 0] 24, row k43 43 (.slice Ao (o).length co) o, row k43 43 (.slice (some ad) (l).length cq) l]) rfl (t := 43) (p := 8) rfl rfl ?hr (H1 := (Sep.set0 (Sep.set0 (Sep.set0 H.out 0 (.string x.f0) rfl) 1 (.string x.f1) rfl) 2 (.int .i64 x.f2) rfl)) ?_;
    (case hr => first | (go_simp; done) | (go_simp; rfl));
    intro wd86 n_;
    clear H c_f z_f c_d z_d c_s c_z z_z;
    have H := n_;
    clear n_;
    have c_f := H.out.cell (g := gf) mem0;
    have z_f := H.out.frozen (g := gf) mem0;
    have c_d := H.out.cell (g := gd) mem1;
    have z_d := H.out.frozen (g := gd) mem1;
    have c_s := H.out.cell (g := gs) mem2;
    have c_z := H.out.cell (g := gz) mem3;
    have z_z := H.out.frozen (g := gz) mem3;
    clear h0 h1 h2)
 | ((with_reducible refine gate_store (t := 9) (p := 50) rfl ?_);
    refine put_box (rs1 := [box gf [.string x.f0, .string (x.f1 ++ dt), .int .i64 x.f2] 43, box gd [.slice (some ad) (l).length cq, .bool dn, .int .i64 fu, .int .i64 fa] 24, box gs [.int .u8 k, .string nm, .string dt, .int .i64 n] 38, box gz [.slice none 0 0, .bool false, .int .i64 0, .int .i64 0] 24, row k43 43 (.slice Ao (o).length co) o, row k43 43 (.slice (some ad) (l).length cq) l]) rfl (t := 9) (p := 50) rfl rfl ?hr (H1 := (Sep.set0 H.out 1 (.string (x.f1 ++ dt)) rfl)) ?_;
    (case hr => first | (go_simp; done) | (go_simp; rfl));
    intro wd87 n_;
    clear H c_f z_f c_d z_d c_s c_z z_z;
    have H := n_;
    clear n_;
    have c_f := H.out.cell (g := gf) mem0;
    have z_f := H.out.frozen (g := gf) mem0;
    have c_d := H.out.cell (g := gd) mem1;
    have z_d := H.out.frozen (g := gd) mem1;
    have c_s := H.out.cell (g := gs) mem2;
    have c_z := H.out.cell (g := gz) mem3;
    have z_z := H.out.frozen (g := gz) mem3)
 | ((with_reducible refine gate_builtin (b := .append) (xs := #[.tmp 70, .tmp 72]) rfl ?_); at_builtin;
    refine app_row4 k43 flat_43 rfl (.tmp 70) (.tmp 72) 22 43 (.agg #[(.string ⟨#[]⟩), (.string ⟨#[]⟩), (.int .i64 0)]) 40 rfl Try.underlying22 info43 rfl (by decide) (by omega) (.slice Ao (o).length co) _ ((⟨x.f0, x.f1 ++ dt, x.f2⟩ : S43)) [.string x.f0, .string (x.f1 ++ dt), .int .i64 x.f2] ?hs ?hx ?hp H ?hl ?_;
    (case hs => first | rfl | (go_simp; done) | (simp; rfl));
    (case hx => first | (go_simp; done) | (go_simp; rfl));
    (case hp => exact k43_mkM _ _ _ _);
    (case hl => (have := HOL.out; (try simp only [List.length_append, List.length_cons, List.length_nil]); omega));
    intro Ao2 co2 wd88 n_;
    clear H c_f z_f c_d z_d c_s c_z z_z;
    have H := n_;
    clear n_;
    have c_f := H.out.cell (g := gf) mem0;
    have z_f := H.out.frozen (g := gf) mem0;
    have c_d := H.out.cell (g := gd) mem1;
    have z_d := H.out.frozen (g := gd) mem1;
    have c_s := H.out.cell (g := gs) mem2;
    have c_z := H.out.cell (g := gz) mem3;
    have z_z := H.out.frozen (g := gz) mem3)
 | fail)
      refine ⟨⟨i + 1, (o ++ [(⟨x.f0, x.f1 ++ dt, x.f2⟩ : S43)]), Ao2, co2, by simp, by rfl, by congr 1, by omega, ⟨?_⟩, ⟨?_⟩⟩, by simp [intOf]; omega⟩
      ·
       have hG := HG.out
       rw [HDX.out, doneL, if_neg (by simp), if_pos HE.out, altF, if_pos HK2.out] at hG
       simpa using hG
      ·
       exact (Sep.drop0 H.out)
     ·
      by_cases hk3 : k = 3
      ·
       have e2_ : (k == 2) = false := beq_eq_false_iff_ne.2 hk2
       have e3_ : (k == 3) = true := beq_iff_eq.2 hk3
       have HK2 := Aside0.mk hk2
       have HK3 := Aside0.mk hk3
       clear hk2 hk3
       go_wp2_with (first
 | ((with_reducible refine gate_dst (N := 8) rfl ?_);
    refine new_box rfl H (cs := [.string ⟨#[]⟩, .string ⟨#[]⟩, .int .i64 0]) (t := 43) ?hr ?_;
    (case hr => first | (go_simp; done) | (go_simp; rfl));
    intro gf wd89 n_;
    simp only [Act.put, List.setIfInBounds_toArray, List.set_cons_zero, List.set_cons_succ];
    clear H c_d z_d c_s c_z z_z;
    have H := n_;
    clear n_;
    have c_f := H.out.cell (g := gf) mem0;
    have z_f := H.out.frozen (g := gf) mem0;
    have c_d := H.out.cell (g := gd) mem1;
    have z_d := H.out.frozen (g := gd) mem1;
    have c_s := H.out.cell (g := gs) mem2;
    have c_z := H.out.cell (g := gz) mem3;
    have z_z := H.out.frozen (g := gz) mem3)
 | ((with_reducible refine gate_store (t := 43) (p := 8) rfl ?_);
    refine put_box (rs1 := [box gf [.string x.f0, .string x.f1, .int .i64 x.f2] 43, box gd [.slice (some ad) (l).length cq, .bool dn, .int .i64 fu, .int .i64 fa] 24, box gs [.int .u8 k, .string nm, .string dt, .int .i64 n] 38, box gz [.slice none 0 0, .bool false, .int .i64 0, .int .i64 0] 24, row k43 43 (.slice Ao (o).length co) o, row k43 43 (.slice (some ad) (l).length cq) l]) rfl (t := 43) (p := 8) rfl rfl ?hr (H1 := (Sep.set0 (Sep.set0 (Sep.set0 H.out 0 (.string x.f0) rfl) 1 (.string x.f1) rfl) 2 (.int .i64 x.f2) rfl)) ?_;
    (case hr => first | (go_simp; done) | (go_simp; rfl));
    intro wd90 n_;
    clear H c_f z_f c_d z_d c_s c_z z_z;
    have H := n_;
    clear n_;
    have c_f := H.out.cell (g := gf) mem0;
    have z_f := H.out.frozen (g := gf) mem0;
    have c_d := H.out.cell (g := gd) mem1;
    have z_d := H.out.frozen (g := gd) mem1;
    have c_s := H.out.cell (g := gs) mem2;
    have c_z := H.out.cell (g := gz) mem3;
    have z_z := H.out.frozen (g := gz) mem3;
    clear h0 h1 h2)
 | ((with_reducible refine gate_store (t := 3) (p := 56) rfl ?_);
    refine put_box (rs1 := [box gf [.string x.f0, .string x.f1, .int .i64 (x.f1.size : Int)] 43, box gd [.slice (some ad) (l).length cq, .bool dn, .int .i64 fu, .int .i64 fa] 24, box gs [.int .u8 k, .string nm, .string dt, .int .i64 n] 38, box gz [.slice none 0 0, .bool false, .int .i64 0, .int .i64 0] 24, row k43 43 (.slice Ao (o).length co) o, row k43 43 (.slice (some ad) (l).length cq) l]) rfl (t := 3) (p := 56) rfl rfl ?hr (H1 := (Sep.set0 H.out 2 (.int .i64 (x.f1.size : Int)) rfl)) ?_;
    (case hr => first | (go_simp; done) | (go_simp; rfl));
    intro wd91 n_;
    clear H c_f z_f c_d z_d c_s c_z z_z;
    have H := n_;
    clear n_;
    have c_f := H.out.cell (g := gf) mem0;
    have z_f := H.out.frozen (g := gf) mem0;
    have c_d := H.out.cell (g := gd) mem1;
    have z_d := H.out.frozen (g := gd) mem1;
    have c_s := H.out.cell (g := gs) mem2;
    have c_z := H.out.cell (g := gz) mem3;
    have z_z := H.out.frozen (g := gz) mem3)
 | ((with_reducible refine gate_builtin (b := .append) (xs := #[.tmp 70, .tmp 72]) rfl ?_); at_builtin;
    refine app_row4 k43 flat_43 rfl (.tmp 70) (.tmp 72) 22 43 (.agg #[(.string ⟨#[]⟩), (.string ⟨#[]⟩), (.int .i64 0)]) 40 rfl Try.underlying22 info43 rfl (by decide) (by omega) (.slice Ao (o).length co) _ ((⟨x.f0, x.f1, (x.f1.size : Int)⟩ : S43)) [.string x.f0, .string x.f1, .int .i64 (x.f1.size : Int)] ?hs ?hx ?hp H ?hl ?_;
    (case hs => first | rfl | (go_simp; done) | (simp; rfl));
    (case hx => first | (go_simp; done) | (go_simp; rfl));
    (case hp => exact k43_mkM _ _ _ _);
    (case hl => (have := HOL.out; (try simp only [List.length_append, List.length_cons, List.length_nil]); omega));
    intro Ao2 co2 wd92 n_;
    clear H c_f z_f c_d z_d c_s c_z z_z;
    have H := n_;
    clear n_;
    have c_f := H.out.cell (g := gf) mem0;
    have z_f := H.out.frozen (g := gf) mem0;
    have c_d := H.out.cell (g := gd) mem1;
    have z_d := H.out.frozen (g := gd) mem1;
    have c_s := H.out.cell (g := gs) mem2;
    have c_z := H.out.cell (g := gz) mem3;
    have z_z := H.out.frozen (g := gz) mem3)
 | fail)
       refine ⟨⟨i + 1, (o ++ [(⟨x.f0, x.f1, (x.f1.size : Int)⟩ : S43)]), Ao2, co2, by simp, by rfl, by congr 1, by omega, ⟨?_⟩, ⟨?_⟩⟩, by simp [intOf]; omega⟩
       ·
        have hG := HG.out
        rw [HDX.out, doneL, if_neg (by simp), if_pos HE.out, altF, if_neg HK2.out, if_pos HK3.out] at hG
        simpa using hG
       ·
        exact (Sep.drop0 H.out)
      ·
       by_cases hk4 : k = 4
       ·
        have e2_ : (k == 2) = false := beq_eq_false_iff_ne.2 hk2
        have e3_ : (k == 3) = false := beq_eq_false_iff_ne.2 hk3
        have e4_ : (k == 4) = true := beq_iff_eq.2 hk4
        have HK2 := Aside0.mk hk2
        have HK3 := Aside0.mk hk3
        have HK4 := Aside0.mk hk4
        clear hk2 hk3 hk4
        obtain ⟨hn0, hn1⟩ := ref_cut (d := dt) HOK.out (by rw [← HK4.out]; exact HR0.out) HM.out HE.out
        go_wp2_with (first
 | ((with_reducible refine gate_dst (N := 8) rfl ?_);
    refine new_box rfl H (cs := [.string ⟨#[]⟩, .string ⟨#[]⟩, .int .i64 0]) (t := 43) ?hr ?_;
    (case hr => first | (go_simp; done) | (go_simp; rfl));
    intro gf wd93 n_;
    simp only [Act.put, List.setIfInBounds_toArray, List.set_cons_zero, List.set_cons_succ];
    clear H c_d z_d c_s c_z z_z;
    have H := n_;
    clear n_;
    have c_f := H.out.cell (g := gf) mem0;
    have z_f := H.out.frozen (g := gf) mem0;
    have c_d := H.out.cell (g := gd) mem1;
    have z_d := H.out.frozen (g := gd) mem1;
    have c_s := H.out.cell (g := gs) mem2;
    have c_z := H.out.cell (g := gz) mem3;
    have z_z := H.out.frozen (g := gz) mem3)
 | ((with_reducible refine gate_store (t := 43) (p := 8) rfl ?_);
    refine put_box (rs1 := [box gf [.string x.f0, .string x.f1, .int .i64 x.f2] 43, box gd [.slice (some ad) (l).length cq, .bool dn, .int .i64 fu, .int .i64 fa] 24, box gs [.int .u8 k, .string nm, .string dt, .int .i64 n] 38, box gz [.slice none 0 0, .bool false, .int .i64 0, .int .i64 0] 24, row k43 43 (.slice Ao (o).length co) o, row k43 43 (.slice (some ad) (l).length cq) l]) rfl (t := 43) (p := 8) rfl rfl ?hr (H1 := (Sep.set0 (Sep.set0 (Sep.set0 H.out 0 (.string x.f0) rfl) 1 (.string x.f1) rfl) 2 (.int .i64 x.f2) rfl)) ?_;
    (case hr => first | (go_simp; done) | (go_simp; rfl));
    intro wd94 n_;
    clear H c_f z_f c_d z_d c_s c_z z_z;
    have H := n_;
    clear n_;
    have c_f := H.out.cell (g := gf) mem0;
    have z_f := H.out.frozen (g := gf) mem0;
    have c_d := H.out.cell (g := gd) mem1;
    have z_d := H.out.frozen (g := gd) mem1;
    have c_s := H.out.cell (g := gs) mem2;
    have c_z := H.out.cell (g := gz) mem3;
    have z_z := H.out.frozen (g := gz) mem3;
    clear h0 h1 h2)
 | ((with_reducible refine gate_store (t := 9) (p := 64) rfl ?_);
    refine put_box (rs1 := [box gf [.string x.f0, .string (x.f1.extract 0 n.toNat), .int .i64 x.f2] 43, box gd [.slice (some ad) (l).length cq, .bool dn, .int .i64 fu, .int .i64 fa] 24, box gs [.int .u8 k, .string nm, .string dt, .int .i64 n] 38, box gz [.slice none 0 0, .bool false, .int .i64 0, .int .i64 0] 24, row k43 43 (.slice Ao (o).length co) o, row k43 43 (.slice (some ad) (l).length cq) l]) rfl (t := 9) (p := 64) rfl rfl ?hr (H1 := (Sep.set0 H.out 1 (.string (x.f1.extract 0 n.toNat)) rfl)) ?_;
    (case hr => first | (go_simp; done) | (go_simp; rfl));
    intro wd95 n_;
    clear H c_f z_f c_d z_d c_s c_z z_z;
    have H := n_;
    clear n_;
    have c_f := H.out.cell (g := gf) mem0;
    have z_f := H.out.frozen (g := gf) mem0;
    have c_d := H.out.cell (g := gd) mem1;
    have z_d := H.out.frozen (g := gd) mem1;
    have c_s := H.out.cell (g := gs) mem2;
    have c_z := H.out.cell (g := gz) mem3;
    have z_z := H.out.frozen (g := gz) mem3)
 | ((with_reducible refine gate_store (t := 3) (p := 67) rfl ?_);
    refine put_box (rs1 := [box gf [.string x.f0, .string (x.f1.extract 0 n.toNat), .int .i64 n] 43, box gd [.slice (some ad) (l).length cq, .bool dn, .int .i64 fu, .int .i64 fa] 24, box gs [.int .u8 k, .string nm, .string dt, .int .i64 n] 38, box gz [.slice none 0 0, .bool false, .int .i64 0, .int .i64 0] 24, row k43 43 (.slice Ao (o).length co) o, row k43 43 (.slice (some ad) (l).length cq) l]) rfl (t := 3) (p := 67) rfl rfl ?hr (H1 := (Sep.set0 H.out 2 (.int .i64 n) rfl)) ?_;
    (case hr => first | (go_simp; done) | (go_simp; rfl));
    intro wd96 n_;
    clear H c_f z_f c_d z_d c_s c_z z_z;
    have H := n_;
    clear n_;
    have c_f := H.out.cell (g := gf) mem0;
    have z_f := H.out.frozen (g := gf) mem0;
    have c_d := H.out.cell (g := gd) mem1;
    have z_d := H.out.frozen (g := gd) mem1;
    have c_s := H.out.cell (g := gs) mem2;
    have c_z := H.out.cell (g := gz) mem3;
    have z_z := H.out.frozen (g := gz) mem3)
 | ((with_reducible refine gate_builtin (b := .append) (xs := #[.tmp 70, .tmp 72]) rfl ?_); at_builtin;
    refine app_row4 k43 flat_43 rfl (.tmp 70) (.tmp 72) 22 43 (.agg #[(.string ⟨#[]⟩), (.string ⟨#[]⟩), (.int .i64 0)]) 40 rfl Try.underlying22 info43 rfl (by decide) (by omega) (.slice Ao (o).length co) _ ((⟨x.f0, x.f1.extract 0 n.toNat, n⟩ : S43)) [.string x.f0, .string (x.f1.extract 0 n.toNat), .int .i64 n] ?hs ?hx ?hp H ?hl ?_;
    (case hs => first | rfl | (go_simp; done) | (simp; rfl));
    (case hx => first | (go_simp; done) | (go_simp; rfl));
    (case hp => exact k43_mkM _ _ _ _);
    (case hl => (have := HOL.out; (try simp only [List.length_append, List.length_cons, List.length_nil]); omega));
    intro Ao2 co2 wd97 n_;
    clear H c_f z_f c_d z_d c_s c_z z_z;
    have H := n_;
    clear n_;
    have c_f := H.out.cell (g := gf) mem0;
    have z_f := H.out.frozen (g := gf) mem0;
    have c_d := H.out.cell (g := gd) mem1;
    have z_d := H.out.frozen (g := gd) mem1;
    have c_s := H.out.cell (g := gs) mem2;
    have c_z := H.out.cell (g := gz) mem3;
    have z_z := H.out.frozen (g := gz) mem3)
 | fail)
        refine ⟨⟨i + 1, (o ++ [(⟨x.f0, x.f1.extract 0 n.toNat, n⟩ : S43)]), Ao2, co2, by simp, by rfl, by congr 1, by omega, ⟨?_⟩, ⟨?_⟩⟩, by simp [intOf]; omega⟩
        ·
         have hG := HG.out
         rw [HDX.out, doneL, if_neg (by simp), if_pos HE.out, altF, if_neg HK2.out, if_neg HK3.out, if_pos HK4.out] at hG
         simpa using hG
        ·
         exact (Sep.drop0 H.out)
       ·
        have hk5_ : k = 5 := by have := HK1.out; omega
        have e2_ : (k == 2) = false := beq_eq_false_iff_ne.2 hk2
        have e3_ : (k == 3) = false := beq_eq_false_iff_ne.2 hk3
        have e4_ : (k == 4) = false := beq_eq_false_iff_ne.2 hk4
        have e5_ : (k == 5) = true := beq_iff_eq.2 hk5_
        have HK2 := Aside0.mk hk2
        have HK3 := Aside0.mk hk3
        have HK4 := Aside0.mk hk4
        have HK5 := Aside0.mk hk5_
        clear hk2 hk3 hk4 hk5_
        go_wp2_with (first
 | ((with_reducible refine gate_dst (N := 8) rfl ?_);
    refine new_box rfl H (cs := [.string ⟨#[]⟩, .string ⟨#[]⟩, .int .i64 0]) (t := 43) ?hr ?_;
    (case hr => first | (go_simp; done) | (go_simp; rfl));
    intro gf wd98 n_;
    simp only [Act.put, List.setIfInBounds_toArray, List.set_cons_zero, List.set_cons_succ];
    clear H c_d z_d c_s c_z z_z;
    have H := n_;
    clear n_;
    have c_f := H.out.cell (g := gf) mem0;
    have z_f := H.out.frozen (g := gf) mem0;
    have c_d := H.out.cell (g := gd) mem1;
    have z_d := H.out.frozen (g := gd) mem1;
    have c_s := H.out.cell (g := gs) mem2;
    have c_z := H.out.cell (g := gz) mem3;
    have z_z := H.out.frozen (g := gz) mem3)
 | ((with_reducible refine gate_store (t := 43) (p := 8) rfl ?_);
    refine put_box (rs1 := [box gf [.string x.f0, .string x.f1, .int .i64 x.f2] 43, box gd [.slice (some ad) (l).length cq, .bool dn, .int .i64 fu, .int .i64 fa] 24, box gs [.int .u8 k, .string nm, .string dt, .int .i64 n] 38, box gz [.slice none 0 0, .bool false, .int .i64 0, .int .i64 0] 24, row k43 43 (.slice Ao (o).length co) o, row k43 43 (.slice (some ad) (l).length cq) l]) rfl (t := 43) (p := 8) rfl rfl ?hr (H1 := (Sep.set0 (Sep.set0 (Sep.set0 H.out 0 (.string x.f0) rfl) 1 (.string x.f1) rfl) 2 (.int .i64 x.f2) rfl)) ?_;
    (case hr => first | (go_simp; done) | (go_simp; rfl));
    intro wd99 n_;
    clear H c_f z_f c_d z_d c_s c_z z_z;
    have H := n_;
    clear n_;
    have c_f := H.out.cell (g := gf) mem0;
    have z_f := H.out.frozen (g := gf) mem0;
    have c_d := H.out.cell (g := gd) mem1;
    have z_d := H.out.frozen (g := gd) mem1;
    have c_s := H.out.cell (g := gs) mem2;
    have c_z := H.out.cell (g := gz) mem3;
    have z_z := H.out.frozen (g := gz) mem3;
    clear h0 h1 h2)
 | fail)
        refine ⟨⟨i + 1, o, Ao, co, by simp, by rfl, by congr 1, by omega, ⟨?_⟩, ⟨?_⟩⟩, by simp [intOf]; omega⟩
        ·
         have hG := HG.out
         rw [HDX.out, doneL, if_neg (by simp), if_pos HE.out, altF, if_neg HK2.out, if_neg HK3.out, if_neg HK4.out, if_pos HK5.out] at hG
         simpa using hG
        ·
         exact (Sep.drop0 H.out)
   ·
    have HOL : Aside0 (o.length ≤ 65) := ⟨by have h := congrArg List.length HG.out; have h2 := HDL.out; rw [List.length_append] at h; omega⟩
    have hG := HG.out
    rw [List.drop_eq_nil_of_le (by omega)] at hG
    have HE := Aside0.mk (show o = R by simpa [doneL] using hG)
    clear hG
    go_wp2_with (first
 | ((with_reducible refine gate_store (t := 22) (p := 84) rfl ?_);
    refine put_box (rs1 := [box gd [.slice Ao (o).length co, .bool dn, .int .i64 fu, .int .i64 fa] 24, box gs [.int .u8 k, .string nm, .string dt, .int .i64 n] 38, box gz [.slice none 0 0, .bool false, .int .i64 0, .int .i64 0] 24, row k43 43 (.slice Ao (o).length co) o, row k43 43 (.slice Aq (l).length cq) l]) rfl (t := 22) (p := 84) rfl rfl ?hr (H1 := (Sep.set0 H.out 0 (.slice Ao (o).length co) rfl)) ?_;
    (case hr => first | (go_simp; done) | (go_simp; rfl));
    intro wd100 n_;
    clear H c_d z_d c_s c_z z_z;
    have H := n_;
    clear n_;
    have c_d := H.out.cell (g := gd) mem0;
    have z_d := H.out.frozen (g := gd) mem0;
    have c_s := H.out.cell (g := gs) mem1;
    have c_z := H.out.cell (g := gz) mem2;
    have z_z := H.out.frozen (g := gz) mem2)
 | ((with_reducible refine gate_store (t := 24) (p := 4) rfl ?_);
    refine put_box (rs1 := [box gd [.slice Ao (o).length co, .bool dn, .int .i64 fu, .int .i64 fa] 24, box gs [.int .u8 k, .string nm, .string dt, .int .i64 n] 38, box gz [.slice Ao (o).length co, .bool dn, .int .i64 fu, .int .i64 fa] 24, row k43 43 (.slice Ao (o).length co) o, row k43 43 (.slice Aq (l).length cq) l]) rfl (t := 24) (p := 4) rfl rfl ?hr (H1 := (Sep.set2 (Sep.set2 (Sep.set2 (Sep.set2 H.out 0 (.slice Ao (o).length co) rfl) 1 (.bool dn) rfl) 2 (.int .i64 fu) rfl) 3 (.int .i64 fa) rfl)) ?_;
    (case hr => first | (go_simp; done) | (go_simp; rfl));
    intro wd101 n_;
    clear H c_d z_d c_s c_z z_z;
    have H := n_;
    clear n_;
    have c_d := H.out.cell (g := gd) mem0;
    have z_d := H.out.frozen (g := gd) mem0;
    have c_s := H.out.cell (g := gs) mem1;
    have c_z := H.out.cell (g := gz) mem2;
    have z_z := H.out.frozen (g := gz) mem2)
 | fail)
    rw [← HE.out]
    (try simp only [Exit.inBlock, Exit.then])
    refine bodyPost_ret (results_cell_row rfl _ _ gz 24 #[.slice Ao (o).length co, .bool dn, .int .i64 fu, .int .i64 fa] (0, 0) _ rfl (H.out.box_ mem2) Try.underlying24 rfl (by kernel_rfl)) rfl ?_
    exact ⟨_, rfl, sep_own H.out mem3 k43_flat2, H.out.below⟩

end Go.Proofs.Ytanonhipicoigaa.T

namespace Go.Proofs.Ytanonhipicoigaa.T
open Go.RowKit Go.Proofs.YtanonhipicoigaaW.PrintWords Go.Proofs.YtanonhipicoigaaW.PrintLast Go.Proofs.YtanonhipicoigaaW.PrintMore Go.Proofs.Ytanonhipicoigaa.Sp
set_option linter.unusedVariables false
set_option linter.unusedSimpArgs false

theorem one_of {l : List S43} (h : rightF l = true) {x : S43} (hx : x ∈ l) : OkOne x := ((right_iff l).1 h).2.1 x hx
theorem crash_mk2 {x : S43} {ks : List Int} {i : Nat} {M : Nat} {s : ByteArray} (h : crashS x ks[i]? = (M : Int)) (hs : s = x.f1.extract 0 M) : crash1 x ks[i]? = (⟨x.f0, s, (M : Int)⟩ : S43) := by
 rw [crash1, h, hs]
 rfl
theorem crash_none {x : S43} {ks : List Int} {i : Nat} (h : ¬ i < ks.length) : crashS x ks[i]? = x.f2 := by
 rw [List.getElem?_eq_none (by omega)]
 rfl
theorem crash_some {x : S43} {ks : List Int} {i : Nat} (h : i < ks.length) : crashS x ks[i]? = x.f2 + mn (mx (rd ks (i : Int)) 0) ((x.f1.size : Int) - x.f2) := by
 rw [rd_at h]
 rfl
set_option maxHeartbeats 8000000 in
set_option maxRecDepth 100000 in
theorem rCrash.calls (A : Option Addr) (c : Nat) (l : List S43) (dn : Bool) (fu fa : Int) (A1 : Option Addr) (c1 : Nat) (ks : List Int) (w : World) (hr : Kd.C k43 w A l.length l) (hc : l.length ≤ c) (hr1 : Kd.C (Kd.int .i64) w A1 ks.length ks) (hc1 : ks.length ≤ c1) :
  Calls Try.prog 24 #[.agg #[.slice A l.length c, .bool dn, .int .i64 fu, .int .i64 fa], .slice A1 ks.length c1] w fun e w' => ∃ v_ : Value, e = .returned (.tuple #[.agg #[v_, .bool false, .int .i64 (if rightF l = true then -1 else 0), .int .i64 (if rightF l = true then -1 else 0)], .int .i64 (if rightF l = true then 0 else 6)]) ∧ Kd.R k43 43 w' w.heap.size (fun _ => True) v_ (if rightF l = true then crashF l ks else []) ∧ Below w.heap.size w w' := by
 have HR1 := Aside0.mk hr1
 have HC1 := Aside0.mk hc1
 have HM1 := Aside0.mk (Kd.C_max hr1)
 clear hr1 hc1
 have HRp := Aside0.mk hr
 have HCp := Aside0.mk hc
 have HMX := Aside0.mk (Kd.C_max hr)
 clear hr hc
 have H := Aside0.mk (Sep.start w)
 go_enter Try.func24, Try.ntmps24
 by_cases hok : rightF l = true
 ·
  simp only [if_pos hok]
  have HOK := Aside0.mk hok
  have hmax : l.length ≤ 64 := right_len hok
  have HCL := Aside0.mk (crashF_length l ks)
  clear hok
  go_wp2_with (first
 | ((with_reducible refine gate_dst (N := 2) rfl ?_);
    refine new_box rfl H (cs := [.slice A l.length c, .bool dn, .int .i64 fu, .int .i64 fa]) (t := 24) ?hr ?_;
    (case hr => first | (go_simp; done) | (go_simp; rfl));
    intro gd wd177 n_;
    simp only [Act.put, List.setIfInBounds_toArray, List.set_cons_zero, List.set_cons_succ];
    clear H;
    have H := n_;
    clear n_;
    have c_d := H.out.cell (g := gd) mem0)
 | ((with_reducible refine gate_dst (N := 4) rfl ?_);
    refine new_box rfl H (cs := [.slice none 0 0, .bool false, .int .i64 0, .int .i64 0]) (t := 24) ?hr ?_;
    (case hr => first | (go_simp; done) | (go_simp; rfl));
    intro gz wd178 n_;
    simp only [Act.put, List.setIfInBounds_toArray, List.set_cons_zero, List.set_cons_succ];
    clear H c_d;
    have H := n_;
    clear n_;
    have c_z := H.out.cell (g := gz) mem0;
    have z_z := H.out.frozen (g := gz) mem0;
    have c_d := H.out.cell (g := gd) mem1)
 | fail)
  refine ((rCheck.calls A c l dn fu fa _ (H.out.came HRp.out) HCp.out).mono ?_)
  rintro e wd179 ⟨rfl, hb_⟩
  have n_ : Aside0 (Sep w wd179 [box gz [.slice none 0 0, .bool false, .int .i64 0, .int .i64 0] 24, box gd [.slice A l.length c, .bool dn, .int .i64 fu, .int .i64 fa] 24]) := ⟨H.out.step hb_⟩
  clear H c_z z_z c_d
  have H := n_
  clear n_
  have c_z := H.out.cell (g := gz) mem0
  have z_z := H.out.frozen (g := gz) mem0
  have c_d := H.out.cell (g := gd) mem1
  clear hb_
  rw [if_pos HOK.out]
  go_wp2_with (first
 | ((with_reducible refine gate_dst (N := 7) rfl ?_);
    refine new_box rfl H (cs := [.slice none 0 0, .bool false, .int .i64 0, .int .i64 0]) (t := 24) ?hr ?_;
    (case hr => first | (go_simp; done) | (go_simp; rfl));
    intro gy wd180 n_;
    simp only [Act.put, List.setIfInBounds_toArray, List.set_cons_zero, List.set_cons_succ];
    clear H c_z z_z c_d;
    have H := n_;
    clear n_;
    have c_y := H.out.cell (g := gy) mem0;
    have z_y := H.out.frozen (g := gy) mem0;
    have c_z := H.out.cell (g := gz) mem1;
    have z_z := H.out.frozen (g := gz) mem1;
    have c_d := H.out.cell (g := gd) mem2)
 | ((with_reducible refine gate_store (t := 24) (p := 7) rfl ?_);
    refine put_box (rs1 := [box gy [.slice none 0 0, .bool false, .int .i64 (-1), .int .i64 (-1)] 24, box gz [.slice none 0 0, .bool false, .int .i64 0, .int .i64 0] 24, box gd [.slice A l.length c, .bool dn, .int .i64 fu, .int .i64 fa] 24]) rfl (t := 24) (p := 7) rfl rfl ?hr (H1 := (Sep.set0 (Sep.set0 (Sep.set0 (Sep.set0 H.out 0 (.slice none 0 0) rfl) 1 (.bool false) rfl) 2 (.int .i64 (-1)) rfl) 3 (.int .i64 (-1)) rfl)) ?_;
    (case hr => first | (go_simp; done) | (go_simp; rfl));
    intro wd181 n_;
    clear H c_y z_y c_z z_z c_d;
    have H := n_;
    clear n_;
    have c_y := H.out.cell (g := gy) mem0;
    have z_y := H.out.frozen (g := gy) mem0;
    have c_z := H.out.cell (g := gz) mem1;
    have z_z := H.out.frozen (g := gz) mem1;
    have c_d := H.out.cell (g := gd) mem2)
 | fail)
  go_loopw [22] (fun v22 wr => ∃ (i : Nat) (o : List S43) (Ao : Option Addr) (co : Nat), v22 = .int .i64 (i : Int) ∧ i ≤ l.length ∧ Aside0 (o = (crashF l ks).take i) ∧ Aside0 (Sep w wr [box gd [.slice A l.length c, .bool dn, .int .i64 fu, .int .i64 fa] 24, box gz [.slice none 0 0, .bool false, .int .i64 0, .int .i64 0] 24, box gy [.slice Ao o.length co, .bool false, .int .i64 (-1), .int .i64 (-1)] 24, row k43 43 (.slice Ao (o).length co) o]))
   (fun v22 _ => l.length - (intOf v22).toNat)
  case atStart => exact ⟨0, [], none, 0, rfl, by omega, ⟨rfl⟩, ⟨(Sep.front3 (Sep.front2 (Sep.front1 (Sep.push_nil H.out))))⟩⟩
  case round =>
   clear H c_y z_y c_z z_z c_d
   obtain ⟨i, o, Ao, co, rfl, hi, HO, H⟩ := hrel
   have c_d := H.out.cell (g := gd) mem0
   have c_z := H.out.cell (g := gz) mem1
   have z_z := H.out.frozen (g := gz) mem1
   have c_y := H.out.cell (g := gy) mem2
   have z_y := H.out.frozen (g := gy) mem2
   by_cases hil : i < l.length
   ·
    obtain ⟨x, hx⟩ : ∃ x, l[i]? = some x := ⟨_, List.getElem?_eq_getElem hil⟩
    obtain ⟨ad, e1⟩ : ∃ ad, A = some ad := (at_T43 HRp.out (i : Int) (by omega) (by omega)).imp fun _ h => h.1
    subst e1
    obtain ⟨h0, h1, h2⟩ := at43 (H.out.came HRp.out) hx
    have HX := Aside0.mk hx
    clear hx
    have hi0 : (0 : Int) ≤ (i : Int) := by omega
    have hi1 : (i : Int) < (l.length : Int) := by omega
    have HOL : Aside0 (o.length = i) := ⟨by rw [HO.out, List.length_take, HCL.out]; omega⟩
    obtain ⟨o1, o2, o3, o4⟩ := one_of HOK.out (List.mem_of_getElem? HX.out)
    have HNX := Aside0.mk (crashF_get (ks := ks) HX.out)
    have hwi : i ≤ 9223372036854775807 := by omega
    obtain ⟨m, hm⟩ : ∃ m : Nat, x.f2 = (m : Int) := ⟨x.f2.toNat, by omega⟩
    rw [hm] at h2 o3 o4
    have HMM := Aside0.mk hm
    clear hm o3
    by_cases hik : i < ks.length
    ·
     obtain ⟨a2, e2, hk⟩ := Kd.at_int (H.out.came HR1.out) (i : Int) (by omega) (by omega)
     subst e2
     simp only [Int.toNat_natCast] at hk
     have hik0 : (i : Int) < (ks.length : Int) := by omega
     have HK := Aside0.mk hik
     obtain ⟨kv, hkv⟩ : ∃ v, v = rd ks (i : Int) := ⟨_, rfl⟩
     rw [← hkv] at hk
     have HKV := Aside0.mk hkv
     clear hkv
     by_cases hpos : 0 < kv
     ·
      by_cases hroom : kv ≤ (x.f1.size : Int) - (m : Int)
      ·
       obtain ⟨m2, hm2⟩ : ∃ m2 : Nat, (m : Int) + kv = (m2 : Int) := ⟨((m : Int) + kv).toNat, by omega⟩
       obtain ⟨sx, hsx⟩ : ∃ s, s = x.f1.extract 0 m2 := ⟨_, rfl⟩
       have hsz : sx.size = m2 := by rw [hsx, ByteArray.size_extract]; omega
       have HP := Aside0.mk (crash_mk2 (ks := ks) (i := i) (x := x) (M := m2) (s := sx) (by rw [crash_some HK.out, ← HKV.out, HMM.out]; unfold mn mx; split <;> split <;> omega) hsx)
       replace hsx := hsx.symm
       go_wp2_with (first
 | ((with_reducible refine gate_dst (N := 9) rfl ?_);
    refine new_box rfl H (cs := [.string ⟨#[]⟩, .string ⟨#[]⟩, .int .i64 0]) (t := 43) ?hr ?_;
    (case hr => first | (go_simp; done) | (go_simp; rfl));
    intro gf wd182 n_;
    simp only [Act.put, List.setIfInBounds_toArray, List.set_cons_zero, List.set_cons_succ];
    clear H c_d c_z z_z c_y z_y;
    have H := n_;
    clear n_;
    have c_f := H.out.cell (g := gf) mem0;
    have z_f := H.out.frozen (g := gf) mem0;
    have c_d := H.out.cell (g := gd) mem1;
    have c_z := H.out.cell (g := gz) mem2;
    have z_z := H.out.frozen (g := gz) mem2;
    have c_y := H.out.cell (g := gy) mem3;
    have z_y := H.out.frozen (g := gy) mem3)
 | ((with_reducible refine gate_store (t := 43) (p := 9) rfl ?_);
    refine put_box (rs1 := [box gf [.string x.f0, .string x.f1, .int .i64 (m : Int)] 43, box gd [.slice (some ad) l.length c, .bool dn, .int .i64 fu, .int .i64 fa] 24, box gz [.slice none 0 0, .bool false, .int .i64 0, .int .i64 0] 24, box gy [.slice Ao o.length co, .bool false, .int .i64 (-1), .int .i64 (-1)] 24, row k43 43 (.slice Ao (o).length co) o]) rfl (t := 43) (p := 9) rfl rfl ?hr (H1 := (Sep.set0 (Sep.set0 (Sep.set0 H.out 0 (.string x.f0) rfl) 1 (.string x.f1) rfl) 2 (.int .i64 (m : Int)) rfl)) ?_;
    (case hr => first | (go_simp; done) | (go_simp; rfl));
    intro wd183 n_;
    clear H c_f z_f c_d c_z z_z c_y z_y;
    have H := n_;
    clear n_;
    have c_f := H.out.cell (g := gf) mem0;
    have z_f := H.out.frozen (g := gf) mem0;
    have c_d := H.out.cell (g := gd) mem1;
    have c_z := H.out.cell (g := gz) mem2;
    have z_z := H.out.frozen (g := gz) mem2;
    have c_y := H.out.cell (g := gy) mem3;
    have z_y := H.out.frozen (g := gy) mem3;
    clear h0 h1 h2;
    clear hk;
    have hk := Kd.foot_int (H.out.came HR1.out) (i : Int) hi0 hik0;
    rw [← HKV.out] at hk;
    simp only [Int.toNat_natCast] at hk)
 | ((with_reducible refine gate_builtin (b := .append) (xs := #[.tmp 64, .tmp 71]) rfl ?_); at_builtin;
    refine app_row4 k43 flat_43 rfl (.tmp 64) (.tmp 71) 22 43 (.agg #[(.string ⟨#[]⟩), (.string ⟨#[]⟩), (.int .i64 0)]) 40 rfl Try.underlying22 info43 rfl (by decide) (by omega) (.slice Ao (o).length co) _ ((⟨x.f0, sx, (m2 : Int)⟩ : S43)) [.string x.f0, .string sx, .int .i64 (m2 : Int)] ?hs ?hx ?hp H ?hl ?_;
    (case hs => first | rfl | (go_simp; done) | (simp; rfl));
    (case hx => first | (go_simp; done) | (go_simp; rfl));
    (case hp => exact k43_mkM _ _ _ _);
    (case hl => (have := HOL.out; (try simp only [List.length_append, List.length_cons, List.length_nil]); omega));
    intro Ao2 co2 wd184 n_;
    clear H c_f z_f c_d c_z z_z c_y z_y;
    have H := n_;
    clear n_;
    have c_f := H.out.cell (g := gf) mem0;
    have z_f := H.out.frozen (g := gf) mem0;
    have c_d := H.out.cell (g := gd) mem1;
    have c_z := H.out.cell (g := gz) mem2;
    have z_z := H.out.frozen (g := gz) mem2;
    have c_y := H.out.cell (g := gy) mem3;
    have z_y := H.out.frozen (g := gy) mem3)
 | ((with_reducible refine gate_store (t := 22) (p := 73) rfl ?_);
    refine put_box (rs1 := [box gf [.string x.f0, .string x.f1, .int .i64 (m : Int)] 43, box gd [.slice (some ad) l.length c, .bool dn, .int .i64 fu, .int .i64 fa] 24, box gz [.slice none 0 0, .bool false, .int .i64 0, .int .i64 0] 24, box gy [.slice Ao2 ((o ++ [(⟨x.f0, sx, (m2 : Int)⟩ : S43)])).length co2, .bool false, .int .i64 (-1), .int .i64 (-1)] 24, row k43 43 (.slice Ao2 ((o ++ [(⟨x.f0, sx, (m2 : Int)⟩ : S43)])).length co2) ((o ++ [(⟨x.f0, sx, (m2 : Int)⟩ : S43)]))]) rfl (t := 22) (p := 73) rfl rfl ?hr (H1 := (Sep.set3 H.out 0 (.slice Ao2 ((o ++ [(⟨x.f0, sx, (m2 : Int)⟩ : S43)])).length co2) rfl)) ?_;
    (case hr => first | (go_simp; done) | (go_simp; rfl));
    intro wd185 n_;
    clear H c_f z_f c_d c_z z_z c_y z_y;
    have H := n_;
    clear n_;
    have c_f := H.out.cell (g := gf) mem0;
    have z_f := H.out.frozen (g := gf) mem0;
    have c_d := H.out.cell (g := gd) mem1;
    have c_z := H.out.cell (g := gz) mem2;
    have z_z := H.out.frozen (g := gz) mem2;
    have c_y := H.out.cell (g := gy) mem3;
    have z_y := H.out.frozen (g := gy) mem3)
 | fail)
       refine ⟨⟨i + 1, (o ++ [(⟨x.f0, sx, (m2 : Int)⟩ : S43)]), Ao2, co2, by congr 1, by omega, ⟨?_⟩, ⟨?_⟩⟩, by simp [intOf]; omega⟩
       ·
        rw [List.take_add_one, HNX.out, HO.out, HP.out]
        rfl
       ·
        exact (Sep.drop0 H.out)
      ·
       have hsum : (m : Int) + ((x.f1.size : Int) - (m : Int)) = (x.f1.size : Int) := by omega
       obtain ⟨sx, hsx⟩ : ∃ s, s = x.f1.extract 0 x.f1.size := ⟨_, rfl⟩
       have hsz : sx.size = x.f1.size := by rw [hsx, ByteArray.size_extract]; omega
       have HP := Aside0.mk (crash_mk2 (ks := ks) (i := i) (x := x) (M := x.f1.size) (s := sx) (by rw [crash_some HK.out, ← HKV.out, HMM.out]; unfold mn mx; split <;> split <;> omega) hsx)
       replace hsx := hsx.symm
       go_wp2_with (first
 | ((with_reducible refine gate_dst (N := 9) rfl ?_);
    refine new_box rfl H (cs := [.string ⟨#[]⟩, .string ⟨#[]⟩, .int .i64 0]) (t := 43) ?hr ?_;
    (case hr => first | (go_simp; done) | (go_simp; rfl));
    intro gf wd186 n_;
    simp only [Act.put, List.setIfInBounds_toArray, List.set_cons_zero, List.set_cons_succ];
    clear H c_d c_z z_z c_y z_y;
    have H := n_;
    clear n_;
    have c_f := H.out.cell (g := gf) mem0;
    have z_f := H.out.frozen (g := gf) mem0;
    have c_d := H.out.cell (g := gd) mem1;
    have c_z := H.out.cell (g := gz) mem2;
    have z_z := H.out.frozen (g := gz) mem2;
    have c_y := H.out.cell (g := gy) mem3;
    have z_y := H.out.frozen (g := gy) mem3)
 | ((with_reducible refine gate_store (t := 43) (p := 9) rfl ?_);
    refine put_box (rs1 := [box gf [.string x.f0, .string x.f1, .int .i64 (m : Int)] 43, box gd [.slice (some ad) l.length c, .bool dn, .int .i64 fu, .int .i64 fa] 24, box gz [.slice none 0 0, .bool false, .int .i64 0, .int .i64 0] 24, box gy [.slice Ao o.length co, .bool false, .int .i64 (-1), .int .i64 (-1)] 24, row k43 43 (.slice Ao (o).length co) o]) rfl (t := 43) (p := 9) rfl rfl ?hr (H1 := (Sep.set0 (Sep.set0 (Sep.set0 H.out 0 (.string x.f0) rfl) 1 (.string x.f1) rfl) 2 (.int .i64 (m : Int)) rfl)) ?_;
    (case hr => first | (go_simp; done) | (go_simp; rfl));
    intro wd187 n_;
    clear H c_f z_f c_d c_z z_z c_y z_y;
    have H := n_;
    clear n_;
    have c_f := H.out.cell (g := gf) mem0;
    have z_f := H.out.frozen (g := gf) mem0;
    have c_d := H.out.cell (g := gd) mem1;
    have c_z := H.out.cell (g := gz) mem2;
    have z_z := H.out.frozen (g := gz) mem2;
    have c_y := H.out.cell (g := gy) mem3;
    have z_y := H.out.frozen (g := gy) mem3;
    clear h0 h1 h2;
    clear hk;
    have hk := Kd.foot_int (H.out.came HR1.out) (i : Int) hi0 hik0;
    rw [← HKV.out] at hk;
    simp only [Int.toNat_natCast] at hk)
 | ((with_reducible refine gate_builtin (b := .append) (xs := #[.tmp 64, .tmp 71]) rfl ?_); at_builtin;
    refine app_row4 k43 flat_43 rfl (.tmp 64) (.tmp 71) 22 43 (.agg #[(.string ⟨#[]⟩), (.string ⟨#[]⟩), (.int .i64 0)]) 40 rfl Try.underlying22 info43 rfl (by decide) (by omega) (.slice Ao (o).length co) _ ((⟨x.f0, sx, (x.f1.size : Int)⟩ : S43)) [.string x.f0, .string sx, .int .i64 (x.f1.size : Int)] ?hs ?hx ?hp H ?hl ?_;
    (case hs => first | rfl | (go_simp; done) | (simp; rfl));
    (case hx => first | (go_simp; done) | (go_simp; rfl));
    (case hp => exact k43_mkM _ _ _ _);
    (case hl => (have := HOL.out; (try simp only [List.length_append, List.length_cons, List.length_nil]); omega));
    intro Ao2 co2 wd188 n_;
    clear H c_f z_f c_d c_z z_z c_y z_y;
    have H := n_;
    clear n_;
    have c_f := H.out.cell (g := gf) mem0;
    have z_f := H.out.frozen (g := gf) mem0;
    have c_d := H.out.cell (g := gd) mem1;
    have c_z := H.out.cell (g := gz) mem2;
    have z_z := H.out.frozen (g := gz) mem2;
    have c_y := H.out.cell (g := gy) mem3;
    have z_y := H.out.frozen (g := gy) mem3)
 | ((with_reducible refine gate_store (t := 22) (p := 73) rfl ?_);
    refine put_box (rs1 := [box gf [.string x.f0, .string x.f1, .int .i64 (m : Int)] 43, box gd [.slice (some ad) l.length c, .bool dn, .int .i64 fu, .int .i64 fa] 24, box gz [.slice none 0 0, .bool false, .int .i64 0, .int .i64 0] 24, box gy [.slice Ao2 ((o ++ [(⟨x.f0, sx, (x.f1.size : Int)⟩ : S43)])).length co2, .bool false, .int .i64 (-1), .int .i64 (-1)] 24, row k43 43 (.slice Ao2 ((o ++ [(⟨x.f0, sx, (x.f1.size : Int)⟩ : S43)])).length co2) ((o ++ [(⟨x.f0, sx, (x.f1.size : Int)⟩ : S43)]))]) rfl (t := 22) (p := 73) rfl rfl ?hr (H1 := (Sep.set3 H.out 0 (.slice Ao2 ((o ++ [(⟨x.f0, sx, (x.f1.size : Int)⟩ : S43)])).length co2) rfl)) ?_;
    (case hr => first | (go_simp; done) | (go_simp; rfl));
    intro wd189 n_;
    clear H c_f z_f c_d c_z z_z c_y z_y;
    have H := n_;
    clear n_;
    have c_f := H.out.cell (g := gf) mem0;
    have z_f := H.out.frozen (g := gf) mem0;
    have c_d := H.out.cell (g := gd) mem1;
    have c_z := H.out.cell (g := gz) mem2;
    have z_z := H.out.frozen (g := gz) mem2;
    have c_y := H.out.cell (g := gy) mem3;
    have z_y := H.out.frozen (g := gy) mem3)
 | fail)
       refine ⟨⟨i + 1, (o ++ [(⟨x.f0, sx, (x.f1.size : Int)⟩ : S43)]), Ao2, co2, by congr 1, by omega, ⟨?_⟩, ⟨?_⟩⟩, by simp [intOf]; omega⟩
       ·
        rw [List.take_add_one, HNX.out, HO.out, HP.out]
        rfl
       ·
        exact (Sep.drop0 H.out)
     ·
      obtain ⟨sx, hsx⟩ : ∃ s, s = x.f1.extract 0 m := ⟨_, rfl⟩
      have hsz : sx.size = m := by rw [hsx, ByteArray.size_extract]; omega
      have HP := Aside0.mk (crash_mk2 (ks := ks) (i := i) (x := x) (M := m) (s := sx) (by rw [crash_some HK.out, ← HKV.out, HMM.out]; unfold mn mx; split <;> split <;> omega) hsx)
      replace hsx := hsx.symm
      go_wp2_with (first
 | ((with_reducible refine gate_dst (N := 9) rfl ?_);
    refine new_box rfl H (cs := [.string ⟨#[]⟩, .string ⟨#[]⟩, .int .i64 0]) (t := 43) ?hr ?_;
    (case hr => first | (go_simp; done) | (go_simp; rfl));
    intro gf wd190 n_;
    simp only [Act.put, List.setIfInBounds_toArray, List.set_cons_zero, List.set_cons_succ];
    clear H c_d c_z z_z c_y z_y;
    have H := n_;
    clear n_;
    have c_f := H.out.cell (g := gf) mem0;
    have z_f := H.out.frozen (g := gf) mem0;
    have c_d := H.out.cell (g := gd) mem1;
    have c_z := H.out.cell (g := gz) mem2;
    have z_z := H.out.frozen (g := gz) mem2;
    have c_y := H.out.cell (g := gy) mem3;
    have z_y := H.out.frozen (g := gy) mem3)
 | ((with_reducible refine gate_store (t := 43) (p := 9) rfl ?_);
    refine put_box (rs1 := [box gf [.string x.f0, .string x.f1, .int .i64 (m : Int)] 43, box gd [.slice (some ad) l.length c, .bool dn, .int .i64 fu, .int .i64 fa] 24, box gz [.slice none 0 0, .bool false, .int .i64 0, .int .i64 0] 24, box gy [.slice Ao o.length co, .bool false, .int .i64 (-1), .int .i64 (-1)] 24, row k43 43 (.slice Ao (o).length co) o]) rfl (t := 43) (p := 9) rfl rfl ?hr (H1 := (Sep.set0 (Sep.set0 (Sep.set0 H.out 0 (.string x.f0) rfl) 1 (.string x.f1) rfl) 2 (.int .i64 (m : Int)) rfl)) ?_;
    (case hr => first | (go_simp; done) | (go_simp; rfl));
    intro wd191 n_;
    clear H c_f z_f c_d c_z z_z c_y z_y;
    have H := n_;
    clear n_;
    have c_f := H.out.cell (g := gf) mem0;
    have z_f := H.out.frozen (g := gf) mem0;
    have c_d := H.out.cell (g := gd) mem1;
    have c_z := H.out.cell (g := gz) mem2;
    have z_z := H.out.frozen (g := gz) mem2;
    have c_y := H.out.cell (g := gy) mem3;
    have z_y := H.out.frozen (g := gy) mem3;
    clear h0 h1 h2;
    clear hk;
    have hk := Kd.foot_int (H.out.came HR1.out) (i : Int) hi0 hik0;
    rw [← HKV.out] at hk;
    simp only [Int.toNat_natCast] at hk)
 | ((with_reducible refine gate_builtin (b := .append) (xs := #[.tmp 64, .tmp 71]) rfl ?_); at_builtin;
    refine app_row4 k43 flat_43 rfl (.tmp 64) (.tmp 71) 22 43 (.agg #[(.string ⟨#[]⟩), (.string ⟨#[]⟩), (.int .i64 0)]) 40 rfl Try.underlying22 info43 rfl (by decide) (by omega) (.slice Ao (o).length co) _ ((⟨x.f0, sx, (m : Int)⟩ : S43)) [.string x.f0, .string sx, .int .i64 (m : Int)] ?hs ?hx ?hp H ?hl ?_;
    (case hs => first | rfl | (go_simp; done) | (simp; rfl));
    (case hx => first | (go_simp; done) | (go_simp; rfl));
    (case hp => exact k43_mkM _ _ _ _);
    (case hl => (have := HOL.out; (try simp only [List.length_append, List.length_cons, List.length_nil]); omega));
    intro Ao2 co2 wd192 n_;
    clear H c_f z_f c_d c_z z_z c_y z_y;
    have H := n_;
    clear n_;
    have c_f := H.out.cell (g := gf) mem0;
    have z_f := H.out.frozen (g := gf) mem0;
    have c_d := H.out.cell (g := gd) mem1;
    have c_z := H.out.cell (g := gz) mem2;
    have z_z := H.out.frozen (g := gz) mem2;
    have c_y := H.out.cell (g := gy) mem3;
    have z_y := H.out.frozen (g := gy) mem3)
 | ((with_reducible refine gate_store (t := 22) (p := 73) rfl ?_);
    refine put_box (rs1 := [box gf [.string x.f0, .string x.f1, .int .i64 (m : Int)] 43, box gd [.slice (some ad) l.length c, .bool dn, .int .i64 fu, .int .i64 fa] 24, box gz [.slice none 0 0, .bool false, .int .i64 0, .int .i64 0] 24, box gy [.slice Ao2 ((o ++ [(⟨x.f0, sx, (m : Int)⟩ : S43)])).length co2, .bool false, .int .i64 (-1), .int .i64 (-1)] 24, row k43 43 (.slice Ao2 ((o ++ [(⟨x.f0, sx, (m : Int)⟩ : S43)])).length co2) ((o ++ [(⟨x.f0, sx, (m : Int)⟩ : S43)]))]) rfl (t := 22) (p := 73) rfl rfl ?hr (H1 := (Sep.set3 H.out 0 (.slice Ao2 ((o ++ [(⟨x.f0, sx, (m : Int)⟩ : S43)])).length co2) rfl)) ?_;
    (case hr => first | (go_simp; done) | (go_simp; rfl));
    intro wd193 n_;
    clear H c_f z_f c_d c_z z_z c_y z_y;
    have H := n_;
    clear n_;
    have c_f := H.out.cell (g := gf) mem0;
    have z_f := H.out.frozen (g := gf) mem0;
    have c_d := H.out.cell (g := gd) mem1;
    have c_z := H.out.cell (g := gz) mem2;
    have z_z := H.out.frozen (g := gz) mem2;
    have c_y := H.out.cell (g := gy) mem3;
    have z_y := H.out.frozen (g := gy) mem3)
 | fail)
      refine ⟨⟨i + 1, (o ++ [(⟨x.f0, sx, (m : Int)⟩ : S43)]), Ao2, co2, by congr 1, by omega, ⟨?_⟩, ⟨?_⟩⟩, by simp [intOf]; omega⟩
      ·
       rw [List.take_add_one, HNX.out, HO.out, HP.out]
       rfl
      ·
       exact (Sep.drop0 H.out)
    ·
     obtain ⟨sx, hsx⟩ : ∃ s, s = x.f1.extract 0 m := ⟨_, rfl⟩
     have hsz : sx.size = m := by rw [hsx, ByteArray.size_extract]; omega
     have HP := Aside0.mk (crash_mk2 (ks := ks) (i := i) (x := x) (M := m) (s := sx) (by rw [crash_none hik, HMM.out]) hsx)
     replace hsx := hsx.symm
     go_wp2_with (first
 | ((with_reducible refine gate_dst (N := 9) rfl ?_);
    refine new_box rfl H (cs := [.string ⟨#[]⟩, .string ⟨#[]⟩, .int .i64 0]) (t := 43) ?hr ?_;
    (case hr => first | (go_simp; done) | (go_simp; rfl));
    intro gf wd194 n_;
    simp only [Act.put, List.setIfInBounds_toArray, List.set_cons_zero, List.set_cons_succ];
    clear H c_d c_z z_z c_y z_y;
    have H := n_;
    clear n_;
    have c_f := H.out.cell (g := gf) mem0;
    have z_f := H.out.frozen (g := gf) mem0;
    have c_d := H.out.cell (g := gd) mem1;
    have c_z := H.out.cell (g := gz) mem2;
    have z_z := H.out.frozen (g := gz) mem2;
    have c_y := H.out.cell (g := gy) mem3;
    have z_y := H.out.frozen (g := gy) mem3)
 | ((with_reducible refine gate_store (t := 43) (p := 9) rfl ?_);
    refine put_box (rs1 := [box gf [.string x.f0, .string x.f1, .int .i64 (m : Int)] 43, box gd [.slice (some ad) l.length c, .bool dn, .int .i64 fu, .int .i64 fa] 24, box gz [.slice none 0 0, .bool false, .int .i64 0, .int .i64 0] 24, box gy [.slice Ao o.length co, .bool false, .int .i64 (-1), .int .i64 (-1)] 24, row k43 43 (.slice Ao (o).length co) o]) rfl (t := 43) (p := 9) rfl rfl ?hr (H1 := (Sep.set0 (Sep.set0 (Sep.set0 H.out 0 (.string x.f0) rfl) 1 (.string x.f1) rfl) 2 (.int .i64 (m : Int)) rfl)) ?_;
    (case hr => first | (go_simp; done) | (go_simp; rfl));
    intro wd195 n_;
    clear H c_f z_f c_d c_z z_z c_y z_y;
    have H := n_;
    clear n_;
    have c_f := H.out.cell (g := gf) mem0;
    have z_f := H.out.frozen (g := gf) mem0;
    have c_d := H.out.cell (g := gd) mem1;
    have c_z := H.out.cell (g := gz) mem2;
    have z_z := H.out.frozen (g := gz) mem2;
    have c_y := H.out.cell (g := gy) mem3;
    have z_y := H.out.frozen (g := gy) mem3;
    clear h0 h1 h2)
 | ((with_reducible refine gate_builtin (b := .append) (xs := #[.tmp 64, .tmp 71]) rfl ?_); at_builtin;
    refine app_row4 k43 flat_43 rfl (.tmp 64) (.tmp 71) 22 43 (.agg #[(.string ⟨#[]⟩), (.string ⟨#[]⟩), (.int .i64 0)]) 40 rfl Try.underlying22 info43 rfl (by decide) (by omega) (.slice Ao (o).length co) _ ((⟨x.f0, sx, (m : Int)⟩ : S43)) [.string x.f0, .string sx, .int .i64 (m : Int)] ?hs ?hx ?hp H ?hl ?_;
    (case hs => first | rfl | (go_simp; done) | (simp; rfl));
    (case hx => first | (go_simp; done) | (go_simp; rfl));
    (case hp => exact k43_mkM _ _ _ _);
    (case hl => (have := HOL.out; (try simp only [List.length_append, List.length_cons, List.length_nil]); omega));
    intro Ao2 co2 wd196 n_;
    clear H c_f z_f c_d c_z z_z c_y z_y;
    have H := n_;
    clear n_;
    have c_f := H.out.cell (g := gf) mem0;
    have z_f := H.out.frozen (g := gf) mem0;
    have c_d := H.out.cell (g := gd) mem1;
    have c_z := H.out.cell (g := gz) mem2;
    have z_z := H.out.frozen (g := gz) mem2;
    have c_y := H.out.cell (g := gy) mem3;
    have z_y := H.out.frozen (g := gy) mem3)
 | ((with_reducible refine gate_store (t := 22) (p := 73) rfl ?_);
    refine put_box (rs1 := [box gf [.string x.f0, .string x.f1, .int .i64 (m : Int)] 43, box gd [.slice (some ad) l.length c, .bool dn, .int .i64 fu, .int .i64 fa] 24, box gz [.slice none 0 0, .bool false, .int .i64 0, .int .i64 0] 24, box gy [.slice Ao2 ((o ++ [(⟨x.f0, sx, (m : Int)⟩ : S43)])).length co2, .bool false, .int .i64 (-1), .int .i64 (-1)] 24, row k43 43 (.slice Ao2 ((o ++ [(⟨x.f0, sx, (m : Int)⟩ : S43)])).length co2) ((o ++ [(⟨x.f0, sx, (m : Int)⟩ : S43)]))]) rfl (t := 22) (p := 73) rfl rfl ?hr (H1 := (Sep.set3 H.out 0 (.slice Ao2 ((o ++ [(⟨x.f0, sx, (m : Int)⟩ : S43)])).length co2) rfl)) ?_;
    (case hr => first | (go_simp; done) | (go_simp; rfl));
    intro wd197 n_;
    clear H c_f z_f c_d c_z z_z c_y z_y;
    have H := n_;
    clear n_;
    have c_f := H.out.cell (g := gf) mem0;
    have z_f := H.out.frozen (g := gf) mem0;
    have c_d := H.out.cell (g := gd) mem1;
    have c_z := H.out.cell (g := gz) mem2;
    have z_z := H.out.frozen (g := gz) mem2;
    have c_y := H.out.cell (g := gy) mem3;
    have z_y := H.out.frozen (g := gy) mem3)
 | fail)
     refine ⟨⟨i + 1, (o ++ [(⟨x.f0, sx, (m : Int)⟩ : S43)]), Ao2, co2, by congr 1, by omega, ⟨?_⟩, ⟨?_⟩⟩, by simp [intOf]; omega⟩
     ·
      rw [List.take_add_one, HNX.out, HO.out, HP.out]
      rfl
     ·
      exact (Sep.drop0 H.out)
   ·
    have HE := Aside0.mk (show o = crashF l ks by rw [HO.out, List.take_of_length_le (by rw [HCL.out]; omega)])
    go_wp2_with (first
 | ((with_reducible refine gate_store (t := 24) (p := 4) rfl ?_);
    refine put_box (rs1 := [box gd [.slice A l.length c, .bool dn, .int .i64 fu, .int .i64 fa] 24, box gz [.slice Ao (o).length co, .bool false, .int .i64 (-1), .int .i64 (-1)] 24, box gy [.slice Ao o.length co, .bool false, .int .i64 (-1), .int .i64 (-1)] 24, row k43 43 (.slice Ao (o).length co) o]) rfl (t := 24) (p := 4) rfl rfl ?hr (H1 := (Sep.set1 (Sep.set1 (Sep.set1 (Sep.set1 H.out 0 (.slice Ao (o).length co) rfl) 1 (.bool false) rfl) 2 (.int .i64 (-1)) rfl) 3 (.int .i64 (-1)) rfl)) ?_;
    (case hr => first | (go_simp; done) | (go_simp; rfl));
    intro wd198 n_;
    clear H c_d c_z z_z c_y z_y;
    have H := n_;
    clear n_;
    have c_d := H.out.cell (g := gd) mem0;
    have c_z := H.out.cell (g := gz) mem1;
    have z_z := H.out.frozen (g := gz) mem1;
    have c_y := H.out.cell (g := gy) mem2;
    have z_y := H.out.frozen (g := gy) mem2)
 | fail)
    rw [← HE.out]
    (try simp only [Exit.inBlock, Exit.then])
    refine bodyPost_ret (results_ct rfl _ _ gz 24 #[.slice Ao (o).length co, .bool false, .int .i64 (-1), .int .i64 (-1)] (0, 0) _ rfl (H.out.box_ mem1) Try.underlying24 rfl (by kernel_rfl)) rfl ?_
    exact ⟨_, rfl, sep_own H.out mem3 k43_flat2, H.out.below⟩
 ·
  simp only [if_neg hok]
  go_wp2_with (first
 | ((with_reducible refine gate_dst (N := 2) rfl ?_);
    refine new_box rfl H (cs := [.slice A l.length c, .bool dn, .int .i64 fu, .int .i64 fa]) (t := 24) ?hr ?_;
    (case hr => first | (go_simp; done) | (go_simp; rfl));
    intro gd wd199 n_;
    simp only [Act.put, List.setIfInBounds_toArray, List.set_cons_zero, List.set_cons_succ];
    clear H;
    have H := n_;
    clear n_;
    have c_d := H.out.cell (g := gd) mem0)
 | ((with_reducible refine gate_dst (N := 4) rfl ?_);
    refine new_box rfl H (cs := [.slice none 0 0, .bool false, .int .i64 0, .int .i64 0]) (t := 24) ?hr ?_;
    (case hr => first | (go_simp; done) | (go_simp; rfl));
    intro gz wd200 n_;
    simp only [Act.put, List.setIfInBounds_toArray, List.set_cons_zero, List.set_cons_succ];
    clear H c_d;
    have H := n_;
    clear n_;
    have c_z := H.out.cell (g := gz) mem0;
    have z_z := H.out.frozen (g := gz) mem0;
    have c_d := H.out.cell (g := gd) mem1)
 | fail)
  refine ((rCheck.calls A c l dn fu fa _ (H.out.came HRp.out) HCp.out).mono ?_)
  rintro e wd201 ⟨rfl, hb_⟩
  have n_ : Aside0 (Sep w wd201 [box gz [.slice none 0 0, .bool false, .int .i64 0, .int .i64 0] 24, box gd [.slice A l.length c, .bool dn, .int .i64 fu, .int .i64 fa] 24]) := ⟨H.out.step hb_⟩
  clear H c_z z_z c_d
  have H := n_
  clear n_
  have c_z := H.out.cell (g := gz) mem0
  have z_z := H.out.frozen (g := gz) mem0
  have c_d := H.out.cell (g := gd) mem1
  clear hb_
  rw [if_neg hok]
  go_wp2_with (first
 | ((with_reducible refine gate_store (t := 24) (p := 4) rfl ?_);
    refine put_box (rs1 := [box gz [.slice none 0 0, .bool false, .int .i64 0, .int .i64 0] 24, box gd [.slice A l.length c, .bool dn, .int .i64 fu, .int .i64 fa] 24]) rfl (t := 24) (p := 4) rfl rfl ?hr (H1 := (Sep.set0 (Sep.set0 (Sep.set0 (Sep.set0 H.out 0 (.slice none 0 0) rfl) 1 (.bool false) rfl) 2 (.int .i64 0) rfl) 3 (.int .i64 0) rfl)) ?_;
    (case hr => first | (go_simp; done) | (go_simp; rfl));
    intro wd202 n_;
    clear H c_z z_z c_d;
    have H := n_;
    clear n_;
    have c_z := H.out.cell (g := gz) mem0;
    have z_z := H.out.frozen (g := gz) mem0;
    have c_d := H.out.cell (g := gd) mem1)
 | fail)
  (try simp only [Exit.inBlock, Exit.then])
  refine bodyPost_ret (results_ct rfl _ _ gz 24 #[.slice none 0 0, .bool false, .int .i64 0, .int .i64 0] (0, 0) _ rfl (H.out.box_ mem0) Try.underlying24 rfl (by kernel_rfl)) rfl ?_
  exact ⟨_, rfl, Kd.R_nil _ _ _ _ _, H.out.below⟩

end Go.Proofs.Ytanonhipicoigaa.T
