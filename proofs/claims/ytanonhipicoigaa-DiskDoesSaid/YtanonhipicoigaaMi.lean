import Derived.BigRegion
import Derived.Deep.DeepCutAuto
import Derived.Test.YtanonhipicoigaaMg
import Derived.Test.YtanonhipicoigaaMh
import Derived.Test.YtanonhipicoigaaMf
namespace Go.Proofs.Ytanonhipicoigaa.T
open Go.RowKit Go.Proofs.YtanonhipicoigaaW.PrintWords Go.Proofs.YtanonhipicoigaaW.PrintLast Go.Proofs.YtanonhipicoigaaW.PrintMore Go.Proofs.Ytanonhipicoigaa.Sp
set_option linter.unusedVariables false
set_option linter.unusedSimpArgs false
set_option maxHeartbeats 8000000 in
set_option maxRecDepth 100000 in
theorem rDo.calls (A : Option Addr) (c : Nat) (l : List S43) (dn : Bool) (fu fa : Int) (k : Int) (nm dt : ByteArray) (n : Int) (l2 : List S43) (dn2 : Bool) (fu2 fa2 e2 : Int) (w : World) (hr : Kd.C k43 w A l.length l) (hc : l.length ≤ c) (hlen : l.length < 3518437208883) (hd : doF l dn fu fa k nm dt n = (l2, dn2, fu2, fa2, e2)) :
  Calls Try.prog 19 #[.agg #[.slice A l.length c, .bool dn, .int .i64 fu, .int .i64 fa], .agg #[.int .u8 k, .string nm, .string dt, .int .i64 n]] w fun e w' => ∃ v_ : Value, e = .returned (.tuple #[.agg #[v_, .bool dn2, .int .i64 fu2, .int .i64 fa2], .int .i64 e2]) ∧ Kd.R k43 43 w' w.heap.size (fun _ => True) v_ l2 ∧ Below w.heap.size w w' := by
 have HD := Aside0.mk hd
 clear hd
 have HRp := Aside0.mk hr
 have HCp := Aside0.mk hc
 have HMX := Aside0.mk (Kd.C_max hr)
 clear hr hc
 have H := Aside0.mk (Sep.start w)
 go_enter Try.func19, Try.ntmps19
 by_cases hok : rightF l = true
 ·
  rw [do_doc hok] at HD
  have hmax := right_len hok
  have HOK := Aside0.mk hok
  clear hok
  by_cases hk : k < 1 ∨ 6 ≤ k
  ·
   obtain ⟨e1, e2_, e3, e4, e5⟩ : l = l2 ∧ dn = dn2 ∧ fu = fu2 ∧ fa = fa2 ∧ 5 = e2 := by
    have h := HD.out
    rw [if_pos hk] at h
    injection h with h1 h; injection h with h2 h; injection h with h3 h; injection h with h4 h5
    exact ⟨h1, h2, h3, h4, h5⟩
   subst e1 e2_ e3 e4 e5
   clear HD
   by_cases hk0 : k < 1
   ·
    clear hk
    go_wp2_with (first
 | ((with_reducible refine gate_dst (N := 2) rfl ?_);
    refine new_box rfl H (cs := [.slice A l.length c, .bool dn, .int .i64 fu, .int .i64 fa]) (t := 24) ?hr ?_;
    (case hr => first | (go_simp; done) | (go_simp; rfl));
    intro gd wd102 n_;
    simp only [Act.put, List.setIfInBounds_toArray, List.set_cons_zero, List.set_cons_succ];
    clear H;
    have H := n_;
    clear n_;
    have c_d := H.out.cell (g := gd) mem0;
    have z_d := H.out.frozen (g := gd) mem0)
 | ((with_reducible refine gate_dst (N := 3) rfl ?_);
    refine new_box rfl H (cs := [.int .u8 k, .string nm, .string dt, .int .i64 n]) (t := 38) ?hr ?_;
    (case hr => first | (go_simp; done) | (go_simp; rfl));
    intro gs wd103 n_;
    simp only [Act.put, List.setIfInBounds_toArray, List.set_cons_zero, List.set_cons_succ];
    clear H c_d z_d;
    have H := n_;
    clear n_;
    have c_s := H.out.cell (g := gs) mem0;
    have c_d := H.out.cell (g := gd) mem1;
    have z_d := H.out.frozen (g := gd) mem1)
 | ((with_reducible refine gate_dst (N := 4) rfl ?_);
    refine new_box rfl H (cs := [.slice none 0 0, .bool false, .int .i64 0, .int .i64 0]) (t := 24) ?hr ?_;
    (case hr => first | (go_simp; done) | (go_simp; rfl));
    intro gz wd104 n_;
    simp only [Act.put, List.setIfInBounds_toArray, List.set_cons_zero, List.set_cons_succ];
    clear H c_s c_d z_d;
    have H := n_;
    clear n_;
    have c_z := H.out.cell (g := gz) mem0;
    have z_z := H.out.frozen (g := gz) mem0;
    have c_s := H.out.cell (g := gs) mem1;
    have c_d := H.out.cell (g := gd) mem2;
    have z_d := H.out.frozen (g := gd) mem2)
 | fail)
    refine ((rCheck.calls A c l dn fu fa _ (H.out.came HRp.out) HCp.out).mono ?_)
    rintro e wd105 ⟨rfl, hb_⟩
    have n_ : Aside0 (Sep w wd105 [box gz [.slice none 0 0, .bool false, .int .i64 0, .int .i64 0] 24, box gs [.int .u8 k, .string nm, .string dt, .int .i64 n] 38, box gd [.slice A l.length c, .bool dn, .int .i64 fu, .int .i64 fa] 24]) := ⟨H.out.step hb_⟩
    clear H c_z z_z c_s c_d z_d
    have H := n_
    clear n_
    have c_z := H.out.cell (g := gz) mem0
    have z_z := H.out.frozen (g := gz) mem0
    have c_s := H.out.cell (g := gs) mem1
    have c_d := H.out.cell (g := gd) mem2
    have z_d := H.out.frozen (g := gd) mem2
    clear hb_
    rw [if_pos HOK.out]
    go_wp2_with fail
    refine ((penstockref09_Copy.calls A c l dn fu fa l dn fu fa _ (H.out.came HRp.out) HCp.out (copy_any (by omega) _ _ _)).mono ?_)
    rintro e wd106 ⟨v_, rfl, ho_, hb_⟩
    obtain ⟨Ao, co, eo_⟩ := Kd.R_slice ho_
    subst eo_
    have n_ : Aside0 (Sep w wd106 [row k43 43 (.slice Ao (l).length co) l, box gz [.slice none 0 0, .bool false, .int .i64 0, .int .i64 0] 24, box gs [.int .u8 k, .string nm, .string dt, .int .i64 n] 38, box gd [.slice A l.length c, .bool dn, .int .i64 fu, .int .i64 fa] 24]) := ⟨Sep.push_row H.out hb_ ho_ k43_flat⟩
    clear H c_z z_z c_s c_d z_d
    have H := n_
    clear n_
    have c_z := H.out.cell (g := gz) mem1
    have z_z := H.out.frozen (g := gz) mem1
    have c_s := H.out.cell (g := gs) mem2
    have c_d := H.out.cell (g := gd) mem3
    have z_d := H.out.frozen (g := gd) mem3
    clear ho_ hb_
    go_wp2_with (first
 | ((with_reducible refine gate_store (t := 24) (p := 4) rfl ?_);
    refine put_box (rs1 := [row k43 43 (.slice Ao (l).length co) l, box gz [.slice Ao (l).length co, .bool dn, .int .i64 fu, .int .i64 fa] 24, box gs [.int .u8 k, .string nm, .string dt, .int .i64 n] 38, box gd [.slice A l.length c, .bool dn, .int .i64 fu, .int .i64 fa] 24]) rfl (t := 24) (p := 4) rfl rfl ?hr (H1 := (Sep.set1 (Sep.set1 (Sep.set1 (Sep.set1 H.out 0 (.slice Ao (l).length co) rfl) 1 (.bool dn) rfl) 2 (.int .i64 fu) rfl) 3 (.int .i64 fa) rfl)) ?_;
    (case hr => first | (go_simp; done) | (go_simp; rfl));
    intro wd107 n_;
    clear H c_z z_z c_s c_d z_d;
    have H := n_;
    clear n_;
    have c_z := H.out.cell (g := gz) mem1;
    have z_z := H.out.frozen (g := gz) mem1;
    have c_s := H.out.cell (g := gs) mem2;
    have c_d := H.out.cell (g := gd) mem3;
    have z_d := H.out.frozen (g := gd) mem3)
 | fail)
    (try simp only [Exit.inBlock, Exit.then])
    refine bodyPost_ret (results_ct rfl _ _ gz 24 #[.slice Ao (l).length co, .bool dn, .int .i64 fu, .int .i64 fa] (0, 0) _ rfl (H.out.box_ mem1) Try.underlying24 rfl (by kernel_rfl)) rfl ?_
    exact ⟨_, rfl, sep_own H.out mem0 k43_flat2, H.out.below⟩
   ·
    have hk6 : 6 ≤ k := by omega
    clear hk
    go_wp2_with (first
 | ((with_reducible refine gate_dst (N := 2) rfl ?_);
    refine new_box rfl H (cs := [.slice A l.length c, .bool dn, .int .i64 fu, .int .i64 fa]) (t := 24) ?hr ?_;
    (case hr => first | (go_simp; done) | (go_simp; rfl));
    intro gd wd108 n_;
    simp only [Act.put, List.setIfInBounds_toArray, List.set_cons_zero, List.set_cons_succ];
    clear H;
    have H := n_;
    clear n_;
    have c_d := H.out.cell (g := gd) mem0;
    have z_d := H.out.frozen (g := gd) mem0)
 | ((with_reducible refine gate_dst (N := 3) rfl ?_);
    refine new_box rfl H (cs := [.int .u8 k, .string nm, .string dt, .int .i64 n]) (t := 38) ?hr ?_;
    (case hr => first | (go_simp; done) | (go_simp; rfl));
    intro gs wd109 n_;
    simp only [Act.put, List.setIfInBounds_toArray, List.set_cons_zero, List.set_cons_succ];
    clear H c_d z_d;
    have H := n_;
    clear n_;
    have c_s := H.out.cell (g := gs) mem0;
    have c_d := H.out.cell (g := gd) mem1;
    have z_d := H.out.frozen (g := gd) mem1)
 | ((with_reducible refine gate_dst (N := 4) rfl ?_);
    refine new_box rfl H (cs := [.slice none 0 0, .bool false, .int .i64 0, .int .i64 0]) (t := 24) ?hr ?_;
    (case hr => first | (go_simp; done) | (go_simp; rfl));
    intro gz wd110 n_;
    simp only [Act.put, List.setIfInBounds_toArray, List.set_cons_zero, List.set_cons_succ];
    clear H c_s c_d z_d;
    have H := n_;
    clear n_;
    have c_z := H.out.cell (g := gz) mem0;
    have z_z := H.out.frozen (g := gz) mem0;
    have c_s := H.out.cell (g := gs) mem1;
    have c_d := H.out.cell (g := gd) mem2;
    have z_d := H.out.frozen (g := gd) mem2)
 | fail)
    refine ((rCheck.calls A c l dn fu fa _ (H.out.came HRp.out) HCp.out).mono ?_)
    rintro e wd111 ⟨rfl, hb_⟩
    have n_ : Aside0 (Sep w wd111 [box gz [.slice none 0 0, .bool false, .int .i64 0, .int .i64 0] 24, box gs [.int .u8 k, .string nm, .string dt, .int .i64 n] 38, box gd [.slice A l.length c, .bool dn, .int .i64 fu, .int .i64 fa] 24]) := ⟨H.out.step hb_⟩
    clear H c_z z_z c_s c_d z_d
    have H := n_
    clear n_
    have c_z := H.out.cell (g := gz) mem0
    have z_z := H.out.frozen (g := gz) mem0
    have c_s := H.out.cell (g := gs) mem1
    have c_d := H.out.cell (g := gd) mem2
    have z_d := H.out.frozen (g := gd) mem2
    clear hb_
    rw [if_pos HOK.out]
    go_wp2_with fail
    refine ((penstockref09_Copy.calls A c l dn fu fa l dn fu fa _ (H.out.came HRp.out) HCp.out (copy_any (by omega) _ _ _)).mono ?_)
    rintro e wd112 ⟨v_, rfl, ho_, hb_⟩
    obtain ⟨Ao, co, eo_⟩ := Kd.R_slice ho_
    subst eo_
    have n_ : Aside0 (Sep w wd112 [row k43 43 (.slice Ao (l).length co) l, box gz [.slice none 0 0, .bool false, .int .i64 0, .int .i64 0] 24, box gs [.int .u8 k, .string nm, .string dt, .int .i64 n] 38, box gd [.slice A l.length c, .bool dn, .int .i64 fu, .int .i64 fa] 24]) := ⟨Sep.push_row H.out hb_ ho_ k43_flat⟩
    clear H c_z z_z c_s c_d z_d
    have H := n_
    clear n_
    have c_z := H.out.cell (g := gz) mem1
    have z_z := H.out.frozen (g := gz) mem1
    have c_s := H.out.cell (g := gs) mem2
    have c_d := H.out.cell (g := gd) mem3
    have z_d := H.out.frozen (g := gd) mem3
    clear ho_ hb_
    go_wp2_with (first
 | ((with_reducible refine gate_store (t := 24) (p := 4) rfl ?_);
    refine put_box (rs1 := [row k43 43 (.slice Ao (l).length co) l, box gz [.slice Ao (l).length co, .bool dn, .int .i64 fu, .int .i64 fa] 24, box gs [.int .u8 k, .string nm, .string dt, .int .i64 n] 38, box gd [.slice A l.length c, .bool dn, .int .i64 fu, .int .i64 fa] 24]) rfl (t := 24) (p := 4) rfl rfl ?hr (H1 := (Sep.set1 (Sep.set1 (Sep.set1 (Sep.set1 H.out 0 (.slice Ao (l).length co) rfl) 1 (.bool dn) rfl) 2 (.int .i64 fu) rfl) 3 (.int .i64 fa) rfl)) ?_;
    (case hr => first | (go_simp; done) | (go_simp; rfl));
    intro wd113 n_;
    clear H c_z z_z c_s c_d z_d;
    have H := n_;
    clear n_;
    have c_z := H.out.cell (g := gz) mem1;
    have z_z := H.out.frozen (g := gz) mem1;
    have c_s := H.out.cell (g := gs) mem2;
    have c_d := H.out.cell (g := gd) mem3;
    have z_d := H.out.frozen (g := gd) mem3)
 | fail)
    (try simp only [Exit.inBlock, Exit.then])
    refine bodyPost_ret (results_ct rfl _ _ gz 24 #[.slice Ao (l).length co, .bool dn, .int .i64 fu, .int .i64 fa] (0, 0) _ rfl (H.out.box_ mem1) Try.underlying24 rfl (by kernel_rfl)) rfl ?_
    exact ⟨_, rfl, sep_own H.out mem0 k43_flat2, H.out.below⟩
  ·
   have hk1 : 1 ≤ k := by omega
   have hk5 : k ≤ 5 := by omega
   have hd := HD.out
   rw [if_neg hk] at hd
   clear HD hk
   have HD := Aside0.mk hd
   clear hd
   cases dn
   ·
    have hd := HD.out
    rw [if_neg (by decide)] at hd
    clear HD
    have HD := Aside0.mk hd
    clear hd
    by_cases hr : refF l k nm dt n = 0
    ·
     have hd := HD.out
     rw [if_pos hr] at hd
     clear HD
     have HD := Aside0.mk hd
     clear hd
     have HR := Aside0.mk hr
     clear hr
     go_wp2_with (first
 | ((with_reducible refine gate_dst (N := 2) rfl ?_);
    refine new_box rfl H (cs := [.slice A l.length c, .bool false, .int .i64 fu, .int .i64 fa]) (t := 24) ?hr ?_;
    (case hr => first | (go_simp; done) | (go_simp; rfl));
    intro gd wd114 n_;
    simp only [Act.put, List.setIfInBounds_toArray, List.set_cons_zero, List.set_cons_succ];
    clear H;
    have H := n_;
    clear n_;
    have c_d := H.out.cell (g := gd) mem0;
    have z_d := H.out.frozen (g := gd) mem0)
 | ((with_reducible refine gate_dst (N := 3) rfl ?_);
    refine new_box rfl H (cs := [.int .u8 k, .string nm, .string dt, .int .i64 n]) (t := 38) ?hr ?_;
    (case hr => first | (go_simp; done) | (go_simp; rfl));
    intro gs wd115 n_;
    simp only [Act.put, List.setIfInBounds_toArray, List.set_cons_zero, List.set_cons_succ];
    clear H c_d z_d;
    have H := n_;
    clear n_;
    have c_s := H.out.cell (g := gs) mem0;
    have c_d := H.out.cell (g := gd) mem1;
    have z_d := H.out.frozen (g := gd) mem1)
 | ((with_reducible refine gate_dst (N := 4) rfl ?_);
    refine new_box rfl H (cs := [.slice none 0 0, .bool false, .int .i64 0, .int .i64 0]) (t := 24) ?hr ?_;
    (case hr => first | (go_simp; done) | (go_simp; rfl));
    intro gz wd116 n_;
    simp only [Act.put, List.setIfInBounds_toArray, List.set_cons_zero, List.set_cons_succ];
    clear H c_s c_d z_d;
    have H := n_;
    clear n_;
    have c_z := H.out.cell (g := gz) mem0;
    have z_z := H.out.frozen (g := gz) mem0;
    have c_s := H.out.cell (g := gs) mem1;
    have c_d := H.out.cell (g := gd) mem2;
    have z_d := H.out.frozen (g := gd) mem2)
 | fail)
     refine ((rCheck.calls A c l false fu fa _ (H.out.came HRp.out) HCp.out).mono ?_)
     rintro e wd117 ⟨rfl, hb_⟩
     have n_ : Aside0 (Sep w wd117 [box gz [.slice none 0 0, .bool false, .int .i64 0, .int .i64 0] 24, box gs [.int .u8 k, .string nm, .string dt, .int .i64 n] 38, box gd [.slice A l.length c, .bool false, .int .i64 fu, .int .i64 fa] 24]) := ⟨H.out.step hb_⟩
     clear H c_z z_z c_s c_d z_d
     have H := n_
     clear n_
     have c_z := H.out.cell (g := gz) mem0
     have z_z := H.out.frozen (g := gz) mem0
     have c_s := H.out.cell (g := gs) mem1
     have c_d := H.out.cell (g := gd) mem2
     have z_d := H.out.frozen (g := gd) mem2
     clear hb_
     rw [if_pos HOK.out]
     go_wp2_with fail
     refine ((rRefuses.calls A c l false fu fa k nm dt n _ (H.out.came HRp.out) HCp.out HOK.out).mono ?_)
     rintro e wd118 ⟨rfl, hb_⟩
     have n_ : Aside0 (Sep w wd118 [box gz [.slice none 0 0, .bool false, .int .i64 0, .int .i64 0] 24, box gs [.int .u8 k, .string nm, .string dt, .int .i64 n] 38, box gd [.slice A l.length c, .bool false, .int .i64 fu, .int .i64 fa] 24]) := ⟨H.out.step hb_⟩
     clear H c_z z_z c_s c_d z_d
     have H := n_
     clear n_
     have c_z := H.out.cell (g := gz) mem0
     have z_z := H.out.frozen (g := gz) mem0
     have c_s := H.out.cell (g := gs) mem1
     have c_d := H.out.cell (g := gd) mem2
     have z_d := H.out.frozen (g := gd) mem2
     clear hb_
     rw [HR.out]
     by_cases hfa : fa = 0
     ·
      obtain ⟨e1, e2_, e3, e4, e5⟩ : l = l2 ∧ false = dn2 ∧ fu = fu2 ∧ (-1) = fa2 ∧ 18 = e2 := by
       have h := HD.out
       rw [if_pos hfa] at h
       injection h with h1 h; injection h with h2 h; injection h with h3 h; injection h with h4 h5
       exact ⟨h1, h2, h3, h4, h5⟩
      subst e1 e2_ e3 e4 e5
      clear HD
      subst hfa
      go_wp2_with fail
      refine ((penstockref09_Copy.calls A c l false fu 0 l false fu 0 _ (H.out.came HRp.out) HCp.out (copy_any (by omega) _ _ _)).mono ?_)
      rintro e wd119 ⟨v_, rfl, ho_, hb_⟩
      obtain ⟨Ao, co, eo_⟩ := Kd.R_slice ho_
      subst eo_
      have n_ : Aside0 (Sep w wd119 [row k43 43 (.slice Ao (l).length co) l, box gz [.slice none 0 0, .bool false, .int .i64 0, .int .i64 0] 24, box gs [.int .u8 k, .string nm, .string dt, .int .i64 n] 38, box gd [.slice A l.length c, .bool false, .int .i64 fu, .int .i64 0] 24]) := ⟨Sep.push_row H.out hb_ ho_ k43_flat⟩
      clear H c_z z_z c_s c_d z_d
      have H := n_
      clear n_
      have c_z := H.out.cell (g := gz) mem1
      have z_z := H.out.frozen (g := gz) mem1
      have c_s := H.out.cell (g := gs) mem2
      have c_d := H.out.cell (g := gd) mem3
      have z_d := H.out.frozen (g := gd) mem3
      clear ho_ hb_
      go_wp2_with (first
 | ((with_reducible refine gate_store (t := 24) (p := 2) rfl ?_);
    refine put_box (rs1 := [row k43 43 (.slice Ao (l).length co) l, box gz [.slice none 0 0, .bool false, .int .i64 0, .int .i64 0] 24, box gs [.int .u8 k, .string nm, .string dt, .int .i64 n] 38, box gd [.slice Ao (l).length co, .bool false, .int .i64 fu, .int .i64 0] 24]) rfl (t := 24) (p := 2) rfl rfl ?hr (H1 := (Sep.set3 (Sep.set3 (Sep.set3 (Sep.set3 H.out 0 (.slice Ao (l).length co) rfl) 1 (.bool false) rfl) 2 (.int .i64 fu) rfl) 3 (.int .i64 0) rfl)) ?_;
    (case hr => first | (go_simp; done) | (go_simp; rfl));
    intro wd120 n_;
    clear H c_z z_z c_s c_d z_d;
    have H := n_;
    clear n_;
    have c_z := H.out.cell (g := gz) mem1;
    have z_z := H.out.frozen (g := gz) mem1;
    have c_s := H.out.cell (g := gs) mem2;
    have c_d := H.out.cell (g := gd) mem3;
    have z_d := H.out.frozen (g := gd) mem3)
 | ((with_reducible refine gate_store (t := 3) (p := 40) rfl ?_);
    refine put_box (rs1 := [row k43 43 (.slice Ao (l).length co) l, box gz [.slice none 0 0, .bool false, .int .i64 0, .int .i64 0] 24, box gs [.int .u8 k, .string nm, .string dt, .int .i64 n] 38, box gd [.slice Ao (l).length co, .bool false, .int .i64 fu, .int .i64 (-1)] 24]) rfl (t := 3) (p := 40) rfl rfl ?hr (H1 := (Sep.set3 H.out 3 (.int .i64 (-1)) rfl)) ?_;
    (case hr => first | (go_simp; done) | (go_simp; rfl));
    intro wd121 n_;
    clear H c_z z_z c_s c_d z_d;
    have H := n_;
    clear n_;
    have c_z := H.out.cell (g := gz) mem1;
    have z_z := H.out.frozen (g := gz) mem1;
    have c_s := H.out.cell (g := gs) mem2;
    have c_d := H.out.cell (g := gd) mem3;
    have z_d := H.out.frozen (g := gd) mem3)
 | ((with_reducible refine gate_store (t := 24) (p := 4) rfl ?_);
    refine put_box (rs1 := [row k43 43 (.slice Ao (l).length co) l, box gz [.slice Ao (l).length co, .bool false, .int .i64 fu, .int .i64 (-1)] 24, box gs [.int .u8 k, .string nm, .string dt, .int .i64 n] 38, box gd [.slice Ao (l).length co, .bool false, .int .i64 fu, .int .i64 (-1)] 24]) rfl (t := 24) (p := 4) rfl rfl ?hr (H1 := (Sep.set1 (Sep.set1 (Sep.set1 (Sep.set1 H.out 0 (.slice Ao (l).length co) rfl) 1 (.bool false) rfl) 2 (.int .i64 fu) rfl) 3 (.int .i64 (-1)) rfl)) ?_;
    (case hr => first | (go_simp; done) | (go_simp; rfl));
    intro wd122 n_;
    clear H c_z z_z c_s c_d z_d;
    have H := n_;
    clear n_;
    have c_z := H.out.cell (g := gz) mem1;
    have z_z := H.out.frozen (g := gz) mem1;
    have c_s := H.out.cell (g := gs) mem2;
    have c_d := H.out.cell (g := gd) mem3;
    have z_d := H.out.frozen (g := gd) mem3)
 | fail)
      (try simp only [Exit.inBlock, Exit.then])
      refine bodyPost_ret (results_ct rfl _ _ gz 24 #[.slice Ao (l).length co, .bool false, .int .i64 fu, .int .i64 (-1)] (0, 0) _ rfl (H.out.box_ mem1) Try.underlying24 rfl (by kernel_rfl)) rfl ?_
      exact ⟨_, rfl, sep_own H.out mem0 k43_flat2, H.out.below⟩
     ·
      have hd := HD.out
      rw [if_neg hfa] at hd
      clear HD
      have HD := Aside0.mk hd
      clear hd
      obtain ⟨fx, hfx⟩ : ∃ v, v = wrap64 (fa - 1) := ⟨_, rfl⟩
      obtain ⟨ux, hux⟩ : ∃ v, v = wrap64 (fu - 1) := ⟨_, rfl⟩
      have hwa : IntKind.i64.wrap (fa - 1) = fx := by rw [hfx]; exact i64_w _
      have hwu : IntKind.i64.wrap (fu - 1) = ux := by rw [hux]; exact i64_w _
      have hd := HD.out
      rw [← hfx, ← hux] at hd
      clear HD hfx hux
      have HD := Aside0.mk hd
      clear hd
      by_cases hfp : 0 < fa
      ·
       have hd := HD.out
       rw [if_pos hfp] at hd
       clear HD
       have HD := Aside0.mk hd
       clear hd
       go_wp2_with fail
       refine ((penstockref09_Copy.calls A c l false fu fa l false fu fa _ (H.out.came HRp.out) HCp.out (copy_any (by omega) _ _ _)).mono ?_)
       rintro e wd123 ⟨v_, rfl, ho_, hb_⟩
       obtain ⟨Ao, co, eo_⟩ := Kd.R_slice ho_
       subst eo_
       have n_ : Aside0 (Sep w wd123 [row k43 43 (.slice Ao (l).length co) l, box gz [.slice none 0 0, .bool false, .int .i64 0, .int .i64 0] 24, box gs [.int .u8 k, .string nm, .string dt, .int .i64 n] 38, box gd [.slice A l.length c, .bool false, .int .i64 fu, .int .i64 fa] 24]) := ⟨Sep.push_row H.out hb_ ho_ k43_flat⟩
       clear H c_z z_z c_s c_d z_d
       have H := n_
       clear n_
       have c_z := H.out.cell (g := gz) mem1
       have z_z := H.out.frozen (g := gz) mem1
       have c_s := H.out.cell (g := gs) mem2
       have c_d := H.out.cell (g := gd) mem3
       have z_d := H.out.frozen (g := gd) mem3
       clear ho_ hb_
       by_cases hfu : fu = 0
       ·
        subst hfu
        by_cases hk2 : k = 2
        ·
         obtain ⟨e1, e2_, e3, e4, e5⟩ : dfF l k nm dt n = l2 ∧ true = dn2 ∧ 0 = fu2 ∧ fx = fa2 ∧ 17 = e2 := by
          have h := HD.out
          rw [if_pos rfl, if_pos hk2] at h
          injection h with h1 h; injection h with h2 h; injection h with h3 h; injection h with h4 h5
          exact ⟨h1, h2, h3, h4, h5⟩
         subst e1 e2_ e3 e4 e5
         clear HD
         have HK := Aside0.mk (And.intro hk1 hk5)
         have e2_ : (k == 2) = true := beq_iff_eq.2 hk2
         clear hk1 hk5 hk2
         go_wp2_with (first
 | ((with_reducible refine gate_store (t := 24) (p := 2) rfl ?_);
    refine put_box (rs1 := [row k43 43 (.slice Ao (l).length co) l, box gz [.slice none 0 0, .bool false, .int .i64 0, .int .i64 0] 24, box gs [.int .u8 k, .string nm, .string dt, .int .i64 n] 38, box gd [.slice Ao (l).length co, .bool false, .int .i64 0, .int .i64 fa] 24]) rfl (t := 24) (p := 2) rfl rfl ?hr (H1 := (Sep.set3 (Sep.set3 (Sep.set3 (Sep.set3 H.out 0 (.slice Ao (l).length co) rfl) 1 (.bool false) rfl) 2 (.int .i64 0) rfl) 3 (.int .i64 fa) rfl)) ?_;
    (case hr => first | (go_simp; done) | (go_simp; rfl));
    intro wd124 n_;
    clear H c_z z_z c_s c_d z_d;
    have H := n_;
    clear n_;
    have c_z := H.out.cell (g := gz) mem1;
    have z_z := H.out.frozen (g := gz) mem1;
    have c_s := H.out.cell (g := gs) mem2;
    have c_d := H.out.cell (g := gd) mem3;
    have z_d := H.out.frozen (g := gd) mem3)
 | ((with_reducible refine gate_store (t := 3) (p := 48) rfl ?_);
    refine put_box (rs1 := [row k43 43 (.slice Ao (l).length co) l, box gz [.slice none 0 0, .bool false, .int .i64 0, .int .i64 0] 24, box gs [.int .u8 k, .string nm, .string dt, .int .i64 n] 38, box gd [.slice Ao (l).length co, .bool false, .int .i64 0, .int .i64 fx] 24]) rfl (t := 3) (p := 48) rfl rfl ?hr (H1 := (Sep.set3 H.out 3 (.int .i64 fx) rfl)) ?_;
    (case hr => first | (go_simp; done) | (go_simp; rfl));
    intro wd125 n_;
    clear H c_z z_z c_s c_d z_d;
    have H := n_;
    clear n_;
    have c_z := H.out.cell (g := gz) mem1;
    have z_z := H.out.frozen (g := gz) mem1;
    have c_s := H.out.cell (g := gs) mem2;
    have c_d := H.out.cell (g := gd) mem3;
    have z_d := H.out.frozen (g := gd) mem3)
 | ((with_reducible refine gate_store (t := 4) (p := 52) rfl ?_);
    refine put_box (rs1 := [row k43 43 (.slice Ao (l).length co) l, box gz [.slice none 0 0, .bool false, .int .i64 0, .int .i64 0] 24, box gs [.int .u8 k, .string nm, .string dt, .int .i64 n] 38, box gd [.slice Ao (l).length co, .bool true, .int .i64 0, .int .i64 fx] 24]) rfl (t := 4) (p := 52) rfl rfl ?hr (H1 := (Sep.set3 H.out 1 (.bool true) rfl)) ?_;
    (case hr => first | (go_simp; done) | (go_simp; rfl));
    intro wd126 n_;
    clear H c_z z_z c_s c_d z_d;
    have H := n_;
    clear n_;
    have c_z := H.out.cell (g := gz) mem1;
    have z_z := H.out.frozen (g := gz) mem1;
    have c_s := H.out.cell (g := gs) mem2;
    have c_d := H.out.cell (g := gd) mem3;
    have z_d := H.out.frozen (g := gd) mem3)
 | fail)
         refine ((rDone.calls Ao co l true 0 fx k nm dt n _ (H.out.reads mem0).2.2 (H.out.reads mem0).2.1 HOK.out HK.out.1 HK.out.2 HR.out).mono ?_)
         rintro e wd127 ⟨v_, rfl, ho_, hb_⟩
         obtain ⟨Ar, cr, eo_⟩ := Kd.R_slice ho_
         subst eo_
         have n_ : Aside0 (Sep w wd127 [row k43 43 (.slice Ar ((dfF l k nm dt n)).length cr) ((dfF l k nm dt n)), row k43 43 (.slice Ao (l).length co) l, box gz [.slice none 0 0, .bool false, .int .i64 0, .int .i64 0] 24, box gs [.int .u8 k, .string nm, .string dt, .int .i64 n] 38, box gd [.slice Ao (l).length co, .bool true, .int .i64 0, .int .i64 fx] 24]) := ⟨Sep.push_row H.out hb_ ho_ k43_flat⟩
         clear H c_z z_z c_s c_d z_d
         have H := n_
         clear n_
         have c_z := H.out.cell (g := gz) mem2
         have z_z := H.out.frozen (g := gz) mem2
         have c_s := H.out.cell (g := gs) mem3
         have c_d := H.out.cell (g := gd) mem4
         have z_d := H.out.frozen (g := gd) mem4
         clear ho_ hb_
         go_wp2_with (first
 | ((with_reducible refine gate_store (t := 24) (p := 2) rfl ?_);
    refine put_box (rs1 := [row k43 43 (.slice Ar ((dfF l k nm dt n)).length cr) ((dfF l k nm dt n)), row k43 43 (.slice Ao (l).length co) l, box gz [.slice none 0 0, .bool false, .int .i64 0, .int .i64 0] 24, box gs [.int .u8 k, .string nm, .string dt, .int .i64 n] 38, box gd [.slice Ar ((dfF l k nm dt n)).length cr, .bool true, .int .i64 0, .int .i64 fx] 24]) rfl (t := 24) (p := 2) rfl rfl ?hr (H1 := (Sep.set4 (Sep.set4 (Sep.set4 (Sep.set4 H.out 0 (.slice Ar ((dfF l k nm dt n)).length cr) rfl) 1 (.bool true) rfl) 2 (.int .i64 0) rfl) 3 (.int .i64 fx) rfl)) ?_;
    (case hr => first | (go_simp; done) | (go_simp; rfl));
    intro wd128 n_;
    clear H c_z z_z c_s c_d z_d;
    have H := n_;
    clear n_;
    have c_z := H.out.cell (g := gz) mem2;
    have z_z := H.out.frozen (g := gz) mem2;
    have c_s := H.out.cell (g := gs) mem3;
    have c_d := H.out.cell (g := gd) mem4;
    have z_d := H.out.frozen (g := gd) mem4)
 | ((with_reducible refine gate_store (t := 24) (p := 4) rfl ?_);
    refine put_box (rs1 := [row k43 43 (.slice Ar ((dfF l k nm dt n)).length cr) ((dfF l k nm dt n)), row k43 43 (.slice Ao (l).length co) l, box gz [.slice Ar ((dfF l k nm dt n)).length cr, .bool true, .int .i64 0, .int .i64 fx] 24, box gs [.int .u8 k, .string nm, .string dt, .int .i64 n] 38, box gd [.slice Ar ((dfF l k nm dt n)).length cr, .bool true, .int .i64 0, .int .i64 fx] 24]) rfl (t := 24) (p := 4) rfl rfl ?hr (H1 := (Sep.set2 (Sep.set2 (Sep.set2 (Sep.set2 H.out 0 (.slice Ar ((dfF l k nm dt n)).length cr) rfl) 1 (.bool true) rfl) 2 (.int .i64 0) rfl) 3 (.int .i64 fx) rfl)) ?_;
    (case hr => first | (go_simp; done) | (go_simp; rfl));
    intro wd129 n_;
    clear H c_z z_z c_s c_d z_d;
    have H := n_;
    clear n_;
    have c_z := H.out.cell (g := gz) mem2;
    have z_z := H.out.frozen (g := gz) mem2;
    have c_s := H.out.cell (g := gs) mem3;
    have c_d := H.out.cell (g := gd) mem4;
    have z_d := H.out.frozen (g := gd) mem4)
 | fail)
         (try simp only [Exit.inBlock, Exit.then])
         refine bodyPost_ret (results_ct rfl _ _ gz 24 #[.slice Ar ((dfF l k nm dt n)).length cr, .bool true, .int .i64 0, .int .i64 fx] (0, 0) _ rfl (H.out.box_ mem2) Try.underlying24 rfl (by kernel_rfl)) rfl ?_
         exact ⟨_, rfl, sep_own H.out mem0 k43_flat2, H.out.below⟩
        ·
         obtain ⟨e1, e2_, e3, e4, e5⟩ : l = l2 ∧ true = dn2 ∧ 0 = fu2 ∧ fx = fa2 ∧ 17 = e2 := by
          have h := HD.out
          rw [if_pos rfl, if_neg hk2] at h
          injection h with h1 h; injection h with h2 h; injection h with h3 h; injection h with h4 h5
          exact ⟨h1, h2, h3, h4, h5⟩
         subst e1 e2_ e3 e4 e5
         clear HD
         go_wp2_with (first
 | ((with_reducible refine gate_store (t := 24) (p := 2) rfl ?_);
    refine put_box (rs1 := [row k43 43 (.slice Ao (l).length co) l, box gz [.slice none 0 0, .bool false, .int .i64 0, .int .i64 0] 24, box gs [.int .u8 k, .string nm, .string dt, .int .i64 n] 38, box gd [.slice Ao (l).length co, .bool false, .int .i64 0, .int .i64 fa] 24]) rfl (t := 24) (p := 2) rfl rfl ?hr (H1 := (Sep.set3 (Sep.set3 (Sep.set3 (Sep.set3 H.out 0 (.slice Ao (l).length co) rfl) 1 (.bool false) rfl) 2 (.int .i64 0) rfl) 3 (.int .i64 fa) rfl)) ?_;
    (case hr => first | (go_simp; done) | (go_simp; rfl));
    intro wd130 n_;
    clear H c_z z_z c_s c_d z_d;
    have H := n_;
    clear n_;
    have c_z := H.out.cell (g := gz) mem1;
    have z_z := H.out.frozen (g := gz) mem1;
    have c_s := H.out.cell (g := gs) mem2;
    have c_d := H.out.cell (g := gd) mem3;
    have z_d := H.out.frozen (g := gd) mem3)
 | ((with_reducible refine gate_store (t := 3) (p := 48) rfl ?_);
    refine put_box (rs1 := [row k43 43 (.slice Ao (l).length co) l, box gz [.slice none 0 0, .bool false, .int .i64 0, .int .i64 0] 24, box gs [.int .u8 k, .string nm, .string dt, .int .i64 n] 38, box gd [.slice Ao (l).length co, .bool false, .int .i64 0, .int .i64 fx] 24]) rfl (t := 3) (p := 48) rfl rfl ?hr (H1 := (Sep.set3 H.out 3 (.int .i64 fx) rfl)) ?_;
    (case hr => first | (go_simp; done) | (go_simp; rfl));
    intro wd131 n_;
    clear H c_z z_z c_s c_d z_d;
    have H := n_;
    clear n_;
    have c_z := H.out.cell (g := gz) mem1;
    have z_z := H.out.frozen (g := gz) mem1;
    have c_s := H.out.cell (g := gs) mem2;
    have c_d := H.out.cell (g := gd) mem3;
    have z_d := H.out.frozen (g := gd) mem3)
 | ((with_reducible refine gate_store (t := 4) (p := 52) rfl ?_);
    refine put_box (rs1 := [row k43 43 (.slice Ao (l).length co) l, box gz [.slice none 0 0, .bool false, .int .i64 0, .int .i64 0] 24, box gs [.int .u8 k, .string nm, .string dt, .int .i64 n] 38, box gd [.slice Ao (l).length co, .bool true, .int .i64 0, .int .i64 fx] 24]) rfl (t := 4) (p := 52) rfl rfl ?hr (H1 := (Sep.set3 H.out 1 (.bool true) rfl)) ?_;
    (case hr => first | (go_simp; done) | (go_simp; rfl));
    intro wd132 n_;
    clear H c_z z_z c_s c_d z_d;
    have H := n_;
    clear n_;
    have c_z := H.out.cell (g := gz) mem1;
    have z_z := H.out.frozen (g := gz) mem1;
    have c_s := H.out.cell (g := gs) mem2;
    have c_d := H.out.cell (g := gd) mem3;
    have z_d := H.out.frozen (g := gd) mem3)
 | ((with_reducible refine gate_store (t := 24) (p := 4) rfl ?_);
    refine put_box (rs1 := [row k43 43 (.slice Ao (l).length co) l, box gz [.slice Ao (l).length co, .bool true, .int .i64 0, .int .i64 fx] 24, box gs [.int .u8 k, .string nm, .string dt, .int .i64 n] 38, box gd [.slice Ao (l).length co, .bool true, .int .i64 0, .int .i64 fx] 24]) rfl (t := 24) (p := 4) rfl rfl ?hr (H1 := (Sep.set1 (Sep.set1 (Sep.set1 (Sep.set1 H.out 0 (.slice Ao (l).length co) rfl) 1 (.bool true) rfl) 2 (.int .i64 0) rfl) 3 (.int .i64 fx) rfl)) ?_;
    (case hr => first | (go_simp; done) | (go_simp; rfl));
    intro wd133 n_;
    clear H c_z z_z c_s c_d z_d;
    have H := n_;
    clear n_;
    have c_z := H.out.cell (g := gz) mem1;
    have z_z := H.out.frozen (g := gz) mem1;
    have c_s := H.out.cell (g := gs) mem2;
    have c_d := H.out.cell (g := gd) mem3;
    have z_d := H.out.frozen (g := gd) mem3)
 | fail)
         (try simp only [Exit.inBlock, Exit.then])
         refine bodyPost_ret (results_ct rfl _ _ gz 24 #[.slice Ao (l).length co, .bool true, .int .i64 0, .int .i64 fx] (0, 0) _ rfl (H.out.box_ mem1) Try.underlying24 rfl (by kernel_rfl)) rfl ?_
         exact ⟨_, rfl, sep_own H.out mem0 k43_flat2, H.out.below⟩
       ·
        by_cases hfq : 0 < fu
        ·
         obtain ⟨e1, e2_, e3, e4, e5⟩ : dfF l k nm dt n = l2 ∧ false = dn2 ∧ ux = fu2 ∧ fx = fa2 ∧ 0 = e2 := by
          have h := HD.out
          rw [if_neg hfu, if_pos hfq] at h
          injection h with h1 h; injection h with h2 h; injection h with h3 h; injection h with h4 h5
          exact ⟨h1, h2, h3, h4, h5⟩
         subst e1 e2_ e3 e4 e5
         clear HD
         go_wp2_with (first
 | ((with_reducible refine gate_store (t := 24) (p := 2) rfl ?_);
    refine put_box (rs1 := [row k43 43 (.slice Ao (l).length co) l, box gz [.slice none 0 0, .bool false, .int .i64 0, .int .i64 0] 24, box gs [.int .u8 k, .string nm, .string dt, .int .i64 n] 38, box gd [.slice Ao (l).length co, .bool false, .int .i64 fu, .int .i64 fa] 24]) rfl (t := 24) (p := 2) rfl rfl ?hr (H1 := (Sep.set3 (Sep.set3 (Sep.set3 (Sep.set3 H.out 0 (.slice Ao (l).length co) rfl) 1 (.bool false) rfl) 2 (.int .i64 fu) rfl) 3 (.int .i64 fa) rfl)) ?_;
    (case hr => first | (go_simp; done) | (go_simp; rfl));
    intro wd134 n_;
    clear H c_z z_z c_s c_d z_d;
    have H := n_;
    clear n_;
    have c_z := H.out.cell (g := gz) mem1;
    have z_z := H.out.frozen (g := gz) mem1;
    have c_s := H.out.cell (g := gs) mem2;
    have c_d := H.out.cell (g := gd) mem3;
    have z_d := H.out.frozen (g := gd) mem3)
 | ((with_reducible refine gate_store (t := 3) (p := 48) rfl ?_);
    refine put_box (rs1 := [row k43 43 (.slice Ao (l).length co) l, box gz [.slice none 0 0, .bool false, .int .i64 0, .int .i64 0] 24, box gs [.int .u8 k, .string nm, .string dt, .int .i64 n] 38, box gd [.slice Ao (l).length co, .bool false, .int .i64 fu, .int .i64 fx] 24]) rfl (t := 3) (p := 48) rfl rfl ?hr (H1 := (Sep.set3 H.out 3 (.int .i64 fx) rfl)) ?_;
    (case hr => first | (go_simp; done) | (go_simp; rfl));
    intro wd135 n_;
    clear H c_z z_z c_s c_d z_d;
    have H := n_;
    clear n_;
    have c_z := H.out.cell (g := gz) mem1;
    have z_z := H.out.frozen (g := gz) mem1;
    have c_s := H.out.cell (g := gs) mem2;
    have c_d := H.out.cell (g := gd) mem3;
    have z_d := H.out.frozen (g := gd) mem3)
 | ((with_reducible refine gate_store (t := 3) (p := 66) rfl ?_);
    refine put_box (rs1 := [row k43 43 (.slice Ao (l).length co) l, box gz [.slice none 0 0, .bool false, .int .i64 0, .int .i64 0] 24, box gs [.int .u8 k, .string nm, .string dt, .int .i64 n] 38, box gd [.slice Ao (l).length co, .bool false, .int .i64 ux, .int .i64 fx] 24]) rfl (t := 3) (p := 66) rfl rfl ?hr (H1 := (Sep.set3 H.out 2 (.int .i64 ux) rfl)) ?_;
    (case hr => first | (go_simp; done) | (go_simp; rfl));
    intro wd136 n_;
    clear H c_z z_z c_s c_d z_d;
    have H := n_;
    clear n_;
    have c_z := H.out.cell (g := gz) mem1;
    have z_z := H.out.frozen (g := gz) mem1;
    have c_s := H.out.cell (g := gs) mem2;
    have c_d := H.out.cell (g := gd) mem3;
    have z_d := H.out.frozen (g := gd) mem3)
 | fail)
         refine ((rDone.calls Ao co l false ux fx k nm dt n _ (H.out.reads mem0).2.2 (H.out.reads mem0).2.1 HOK.out hk1 hk5 HR.out).mono ?_)
         rintro e wd137 ⟨v_, rfl, ho_, hb_⟩
         obtain ⟨Ar, cr, eo_⟩ := Kd.R_slice ho_
         subst eo_
         have n_ : Aside0 (Sep w wd137 [row k43 43 (.slice Ar ((dfF l k nm dt n)).length cr) ((dfF l k nm dt n)), row k43 43 (.slice Ao (l).length co) l, box gz [.slice none 0 0, .bool false, .int .i64 0, .int .i64 0] 24, box gs [.int .u8 k, .string nm, .string dt, .int .i64 n] 38, box gd [.slice Ao (l).length co, .bool false, .int .i64 ux, .int .i64 fx] 24]) := ⟨Sep.push_row H.out hb_ ho_ k43_flat⟩
         clear H c_z z_z c_s c_d z_d
         have H := n_
         clear n_
         have c_z := H.out.cell (g := gz) mem2
         have z_z := H.out.frozen (g := gz) mem2
         have c_s := H.out.cell (g := gs) mem3
         have c_d := H.out.cell (g := gd) mem4
         have z_d := H.out.frozen (g := gd) mem4
         clear ho_ hb_
         go_wp2_with (first
 | ((with_reducible refine gate_store (t := 24) (p := 4) rfl ?_);
    refine put_box (rs1 := [row k43 43 (.slice Ar ((dfF l k nm dt n)).length cr) ((dfF l k nm dt n)), row k43 43 (.slice Ao (l).length co) l, box gz [.slice Ar ((dfF l k nm dt n)).length cr, .bool false, .int .i64 ux, .int .i64 fx] 24, box gs [.int .u8 k, .string nm, .string dt, .int .i64 n] 38, box gd [.slice Ao (l).length co, .bool false, .int .i64 ux, .int .i64 fx] 24]) rfl (t := 24) (p := 4) rfl rfl ?hr (H1 := (Sep.set2 (Sep.set2 (Sep.set2 (Sep.set2 H.out 0 (.slice Ar ((dfF l k nm dt n)).length cr) rfl) 1 (.bool false) rfl) 2 (.int .i64 ux) rfl) 3 (.int .i64 fx) rfl)) ?_;
    (case hr => first | (go_simp; done) | (go_simp; rfl));
    intro wd138 n_;
    clear H c_z z_z c_s c_d z_d;
    have H := n_;
    clear n_;
    have c_z := H.out.cell (g := gz) mem2;
    have z_z := H.out.frozen (g := gz) mem2;
    have c_s := H.out.cell (g := gs) mem3;
    have c_d := H.out.cell (g := gd) mem4;
    have z_d := H.out.frozen (g := gd) mem4)
 | fail)
         (try simp only [Exit.inBlock, Exit.then])
         refine bodyPost_ret (results_ct rfl _ _ gz 24 #[.slice Ar ((dfF l k nm dt n)).length cr, .bool false, .int .i64 ux, .int .i64 fx] (0, 0) _ rfl (H.out.box_ mem2) Try.underlying24 rfl (by kernel_rfl)) rfl ?_
         exact ⟨_, rfl, sep_own H.out mem0 k43_flat2, H.out.below⟩
        ·
         obtain ⟨e1, e2_, e3, e4, e5⟩ : dfF l k nm dt n = l2 ∧ false = dn2 ∧ fu = fu2 ∧ fx = fa2 ∧ 0 = e2 := by
          have h := HD.out
          rw [if_neg hfu, if_neg hfq] at h
          injection h with h1 h; injection h with h2 h; injection h with h3 h; injection h with h4 h5
          exact ⟨h1, h2, h3, h4, h5⟩
         subst e1 e2_ e3 e4 e5
         clear HD
         go_wp2_with (first
 | ((with_reducible refine gate_store (t := 24) (p := 2) rfl ?_);
    refine put_box (rs1 := [row k43 43 (.slice Ao (l).length co) l, box gz [.slice none 0 0, .bool false, .int .i64 0, .int .i64 0] 24, box gs [.int .u8 k, .string nm, .string dt, .int .i64 n] 38, box gd [.slice Ao (l).length co, .bool false, .int .i64 fu, .int .i64 fa] 24]) rfl (t := 24) (p := 2) rfl rfl ?hr (H1 := (Sep.set3 (Sep.set3 (Sep.set3 (Sep.set3 H.out 0 (.slice Ao (l).length co) rfl) 1 (.bool false) rfl) 2 (.int .i64 fu) rfl) 3 (.int .i64 fa) rfl)) ?_;
    (case hr => first | (go_simp; done) | (go_simp; rfl));
    intro wd139 n_;
    clear H c_z z_z c_s c_d z_d;
    have H := n_;
    clear n_;
    have c_z := H.out.cell (g := gz) mem1;
    have z_z := H.out.frozen (g := gz) mem1;
    have c_s := H.out.cell (g := gs) mem2;
    have c_d := H.out.cell (g := gd) mem3;
    have z_d := H.out.frozen (g := gd) mem3)
 | ((with_reducible refine gate_store (t := 3) (p := 48) rfl ?_);
    refine put_box (rs1 := [row k43 43 (.slice Ao (l).length co) l, box gz [.slice none 0 0, .bool false, .int .i64 0, .int .i64 0] 24, box gs [.int .u8 k, .string nm, .string dt, .int .i64 n] 38, box gd [.slice Ao (l).length co, .bool false, .int .i64 fu, .int .i64 fx] 24]) rfl (t := 3) (p := 48) rfl rfl ?hr (H1 := (Sep.set3 H.out 3 (.int .i64 fx) rfl)) ?_;
    (case hr => first | (go_simp; done) | (go_simp; rfl));
    intro wd140 n_;
    clear H c_z z_z c_s c_d z_d;
    have H := n_;
    clear n_;
    have c_z := H.out.cell (g := gz) mem1;
    have z_z := H.out.frozen (g := gz) mem1;
    have c_s := H.out.cell (g := gs) mem2;
    have c_d := H.out.cell (g := gd) mem3;
    have z_d := H.out.frozen (g := gd) mem3)
 | fail)
         refine ((rDone.calls Ao co l false fu fx k nm dt n _ (H.out.reads mem0).2.2 (H.out.reads mem0).2.1 HOK.out hk1 hk5 HR.out).mono ?_)
         rintro e wd141 ⟨v_, rfl, ho_, hb_⟩
         obtain ⟨Ar, cr, eo_⟩ := Kd.R_slice ho_
         subst eo_
         have n_ : Aside0 (Sep w wd141 [row k43 43 (.slice Ar ((dfF l k nm dt n)).length cr) ((dfF l k nm dt n)), row k43 43 (.slice Ao (l).length co) l, box gz [.slice none 0 0, .bool false, .int .i64 0, .int .i64 0] 24, box gs [.int .u8 k, .string nm, .string dt, .int .i64 n] 38, box gd [.slice Ao (l).length co, .bool false, .int .i64 fu, .int .i64 fx] 24]) := ⟨Sep.push_row H.out hb_ ho_ k43_flat⟩
         clear H c_z z_z c_s c_d z_d
         have H := n_
         clear n_
         have c_z := H.out.cell (g := gz) mem2
         have z_z := H.out.frozen (g := gz) mem2
         have c_s := H.out.cell (g := gs) mem3
         have c_d := H.out.cell (g := gd) mem4
         have z_d := H.out.frozen (g := gd) mem4
         clear ho_ hb_
         go_wp2_with (first
 | ((with_reducible refine gate_store (t := 24) (p := 4) rfl ?_);
    refine put_box (rs1 := [row k43 43 (.slice Ar ((dfF l k nm dt n)).length cr) ((dfF l k nm dt n)), row k43 43 (.slice Ao (l).length co) l, box gz [.slice Ar ((dfF l k nm dt n)).length cr, .bool false, .int .i64 fu, .int .i64 fx] 24, box gs [.int .u8 k, .string nm, .string dt, .int .i64 n] 38, box gd [.slice Ao (l).length co, .bool false, .int .i64 fu, .int .i64 fx] 24]) rfl (t := 24) (p := 4) rfl rfl ?hr (H1 := (Sep.set2 (Sep.set2 (Sep.set2 (Sep.set2 H.out 0 (.slice Ar ((dfF l k nm dt n)).length cr) rfl) 1 (.bool false) rfl) 2 (.int .i64 fu) rfl) 3 (.int .i64 fx) rfl)) ?_;
    (case hr => first | (go_simp; done) | (go_simp; rfl));
    intro wd142 n_;
    clear H c_z z_z c_s c_d z_d;
    have H := n_;
    clear n_;
    have c_z := H.out.cell (g := gz) mem2;
    have z_z := H.out.frozen (g := gz) mem2;
    have c_s := H.out.cell (g := gs) mem3;
    have c_d := H.out.cell (g := gd) mem4;
    have z_d := H.out.frozen (g := gd) mem4)
 | fail)
         (try simp only [Exit.inBlock, Exit.then])
         refine bodyPost_ret (results_ct rfl _ _ gz 24 #[.slice Ar ((dfF l k nm dt n)).length cr, .bool false, .int .i64 fu, .int .i64 fx] (0, 0) _ rfl (H.out.box_ mem2) Try.underlying24 rfl (by kernel_rfl)) rfl ?_
         exact ⟨_, rfl, sep_own H.out mem0 k43_flat2, H.out.below⟩
      ·
       have hd := HD.out
       rw [if_neg hfp] at hd
       clear HD
       have HD := Aside0.mk hd
       clear hd
       go_wp2_with fail
       refine ((penstockref09_Copy.calls A c l false fu fa l false fu fa _ (H.out.came HRp.out) HCp.out (copy_any (by omega) _ _ _)).mono ?_)
       rintro e wd143 ⟨v_, rfl, ho_, hb_⟩
       obtain ⟨Ao, co, eo_⟩ := Kd.R_slice ho_
       subst eo_
       have n_ : Aside0 (Sep w wd143 [row k43 43 (.slice Ao (l).length co) l, box gz [.slice none 0 0, .bool false, .int .i64 0, .int .i64 0] 24, box gs [.int .u8 k, .string nm, .string dt, .int .i64 n] 38, box gd [.slice A l.length c, .bool false, .int .i64 fu, .int .i64 fa] 24]) := ⟨Sep.push_row H.out hb_ ho_ k43_flat⟩
       clear H c_z z_z c_s c_d z_d
       have H := n_
       clear n_
       have c_z := H.out.cell (g := gz) mem1
       have z_z := H.out.frozen (g := gz) mem1
       have c_s := H.out.cell (g := gs) mem2
       have c_d := H.out.cell (g := gd) mem3
       have z_d := H.out.frozen (g := gd) mem3
       clear ho_ hb_
       by_cases hfu : fu = 0
       ·
        subst hfu
        by_cases hk2 : k = 2
        ·
         obtain ⟨e1, e2_, e3, e4, e5⟩ : dfF l k nm dt n = l2 ∧ true = dn2 ∧ 0 = fu2 ∧ fa = fa2 ∧ 17 = e2 := by
          have h := HD.out
          rw [if_pos rfl, if_pos hk2] at h
          injection h with h1 h; injection h with h2 h; injection h with h3 h; injection h with h4 h5
          exact ⟨h1, h2, h3, h4, h5⟩
         subst e1 e2_ e3 e4 e5
         clear HD
         have HK := Aside0.mk (And.intro hk1 hk5)
         have e2_ : (k == 2) = true := beq_iff_eq.2 hk2
         clear hk1 hk5 hk2
         go_wp2_with (first
 | ((with_reducible refine gate_store (t := 24) (p := 2) rfl ?_);
    refine put_box (rs1 := [row k43 43 (.slice Ao (l).length co) l, box gz [.slice none 0 0, .bool false, .int .i64 0, .int .i64 0] 24, box gs [.int .u8 k, .string nm, .string dt, .int .i64 n] 38, box gd [.slice Ao (l).length co, .bool false, .int .i64 0, .int .i64 fa] 24]) rfl (t := 24) (p := 2) rfl rfl ?hr (H1 := (Sep.set3 (Sep.set3 (Sep.set3 (Sep.set3 H.out 0 (.slice Ao (l).length co) rfl) 1 (.bool false) rfl) 2 (.int .i64 0) rfl) 3 (.int .i64 fa) rfl)) ?_;
    (case hr => first | (go_simp; done) | (go_simp; rfl));
    intro wd144 n_;
    clear H c_z z_z c_s c_d z_d;
    have H := n_;
    clear n_;
    have c_z := H.out.cell (g := gz) mem1;
    have z_z := H.out.frozen (g := gz) mem1;
    have c_s := H.out.cell (g := gs) mem2;
    have c_d := H.out.cell (g := gd) mem3;
    have z_d := H.out.frozen (g := gd) mem3)
 | ((with_reducible refine gate_store (t := 4) (p := 52) rfl ?_);
    refine put_box (rs1 := [row k43 43 (.slice Ao (l).length co) l, box gz [.slice none 0 0, .bool false, .int .i64 0, .int .i64 0] 24, box gs [.int .u8 k, .string nm, .string dt, .int .i64 n] 38, box gd [.slice Ao (l).length co, .bool true, .int .i64 0, .int .i64 fa] 24]) rfl (t := 4) (p := 52) rfl rfl ?hr (H1 := (Sep.set3 H.out 1 (.bool true) rfl)) ?_;
    (case hr => first | (go_simp; done) | (go_simp; rfl));
    intro wd145 n_;
    clear H c_z z_z c_s c_d z_d;
    have H := n_;
    clear n_;
    have c_z := H.out.cell (g := gz) mem1;
    have z_z := H.out.frozen (g := gz) mem1;
    have c_s := H.out.cell (g := gs) mem2;
    have c_d := H.out.cell (g := gd) mem3;
    have z_d := H.out.frozen (g := gd) mem3)
 | fail)
         refine ((rDone.calls Ao co l true 0 fa k nm dt n _ (H.out.reads mem0).2.2 (H.out.reads mem0).2.1 HOK.out HK.out.1 HK.out.2 HR.out).mono ?_)
         rintro e wd146 ⟨v_, rfl, ho_, hb_⟩
         obtain ⟨Ar, cr, eo_⟩ := Kd.R_slice ho_
         subst eo_
         have n_ : Aside0 (Sep w wd146 [row k43 43 (.slice Ar ((dfF l k nm dt n)).length cr) ((dfF l k nm dt n)), row k43 43 (.slice Ao (l).length co) l, box gz [.slice none 0 0, .bool false, .int .i64 0, .int .i64 0] 24, box gs [.int .u8 k, .string nm, .string dt, .int .i64 n] 38, box gd [.slice Ao (l).length co, .bool true, .int .i64 0, .int .i64 fa] 24]) := ⟨Sep.push_row H.out hb_ ho_ k43_flat⟩
         clear H c_z z_z c_s c_d z_d
         have H := n_
         clear n_
         have c_z := H.out.cell (g := gz) mem2
         have z_z := H.out.frozen (g := gz) mem2
         have c_s := H.out.cell (g := gs) mem3
         have c_d := H.out.cell (g := gd) mem4
         have z_d := H.out.frozen (g := gd) mem4
         clear ho_ hb_
         go_wp2_with (first
 | ((with_reducible refine gate_store (t := 24) (p := 2) rfl ?_);
    refine put_box (rs1 := [row k43 43 (.slice Ar ((dfF l k nm dt n)).length cr) ((dfF l k nm dt n)), row k43 43 (.slice Ao (l).length co) l, box gz [.slice none 0 0, .bool false, .int .i64 0, .int .i64 0] 24, box gs [.int .u8 k, .string nm, .string dt, .int .i64 n] 38, box gd [.slice Ar ((dfF l k nm dt n)).length cr, .bool true, .int .i64 0, .int .i64 fa] 24]) rfl (t := 24) (p := 2) rfl rfl ?hr (H1 := (Sep.set4 (Sep.set4 (Sep.set4 (Sep.set4 H.out 0 (.slice Ar ((dfF l k nm dt n)).length cr) rfl) 1 (.bool true) rfl) 2 (.int .i64 0) rfl) 3 (.int .i64 fa) rfl)) ?_;
    (case hr => first | (go_simp; done) | (go_simp; rfl));
    intro wd147 n_;
    clear H c_z z_z c_s c_d z_d;
    have H := n_;
    clear n_;
    have c_z := H.out.cell (g := gz) mem2;
    have z_z := H.out.frozen (g := gz) mem2;
    have c_s := H.out.cell (g := gs) mem3;
    have c_d := H.out.cell (g := gd) mem4;
    have z_d := H.out.frozen (g := gd) mem4)
 | ((with_reducible refine gate_store (t := 24) (p := 4) rfl ?_);
    refine put_box (rs1 := [row k43 43 (.slice Ar ((dfF l k nm dt n)).length cr) ((dfF l k nm dt n)), row k43 43 (.slice Ao (l).length co) l, box gz [.slice Ar ((dfF l k nm dt n)).length cr, .bool true, .int .i64 0, .int .i64 fa] 24, box gs [.int .u8 k, .string nm, .string dt, .int .i64 n] 38, box gd [.slice Ar ((dfF l k nm dt n)).length cr, .bool true, .int .i64 0, .int .i64 fa] 24]) rfl (t := 24) (p := 4) rfl rfl ?hr (H1 := (Sep.set2 (Sep.set2 (Sep.set2 (Sep.set2 H.out 0 (.slice Ar ((dfF l k nm dt n)).length cr) rfl) 1 (.bool true) rfl) 2 (.int .i64 0) rfl) 3 (.int .i64 fa) rfl)) ?_;
    (case hr => first | (go_simp; done) | (go_simp; rfl));
    intro wd148 n_;
    clear H c_z z_z c_s c_d z_d;
    have H := n_;
    clear n_;
    have c_z := H.out.cell (g := gz) mem2;
    have z_z := H.out.frozen (g := gz) mem2;
    have c_s := H.out.cell (g := gs) mem3;
    have c_d := H.out.cell (g := gd) mem4;
    have z_d := H.out.frozen (g := gd) mem4)
 | fail)
         (try simp only [Exit.inBlock, Exit.then])
         refine bodyPost_ret (results_ct rfl _ _ gz 24 #[.slice Ar ((dfF l k nm dt n)).length cr, .bool true, .int .i64 0, .int .i64 fa] (0, 0) _ rfl (H.out.box_ mem2) Try.underlying24 rfl (by kernel_rfl)) rfl ?_
         exact ⟨_, rfl, sep_own H.out mem0 k43_flat2, H.out.below⟩
        ·
         obtain ⟨e1, e2_, e3, e4, e5⟩ : l = l2 ∧ true = dn2 ∧ 0 = fu2 ∧ fa = fa2 ∧ 17 = e2 := by
          have h := HD.out
          rw [if_pos rfl, if_neg hk2] at h
          injection h with h1 h; injection h with h2 h; injection h with h3 h; injection h with h4 h5
          exact ⟨h1, h2, h3, h4, h5⟩
         subst e1 e2_ e3 e4 e5
         clear HD
         go_wp2_with (first
 | ((with_reducible refine gate_store (t := 24) (p := 2) rfl ?_);
    refine put_box (rs1 := [row k43 43 (.slice Ao (l).length co) l, box gz [.slice none 0 0, .bool false, .int .i64 0, .int .i64 0] 24, box gs [.int .u8 k, .string nm, .string dt, .int .i64 n] 38, box gd [.slice Ao (l).length co, .bool false, .int .i64 0, .int .i64 fa] 24]) rfl (t := 24) (p := 2) rfl rfl ?hr (H1 := (Sep.set3 (Sep.set3 (Sep.set3 (Sep.set3 H.out 0 (.slice Ao (l).length co) rfl) 1 (.bool false) rfl) 2 (.int .i64 0) rfl) 3 (.int .i64 fa) rfl)) ?_;
    (case hr => first | (go_simp; done) | (go_simp; rfl));
    intro wd149 n_;
    clear H c_z z_z c_s c_d z_d;
    have H := n_;
    clear n_;
    have c_z := H.out.cell (g := gz) mem1;
    have z_z := H.out.frozen (g := gz) mem1;
    have c_s := H.out.cell (g := gs) mem2;
    have c_d := H.out.cell (g := gd) mem3;
    have z_d := H.out.frozen (g := gd) mem3)
 | ((with_reducible refine gate_store (t := 4) (p := 52) rfl ?_);
    refine put_box (rs1 := [row k43 43 (.slice Ao (l).length co) l, box gz [.slice none 0 0, .bool false, .int .i64 0, .int .i64 0] 24, box gs [.int .u8 k, .string nm, .string dt, .int .i64 n] 38, box gd [.slice Ao (l).length co, .bool true, .int .i64 0, .int .i64 fa] 24]) rfl (t := 4) (p := 52) rfl rfl ?hr (H1 := (Sep.set3 H.out 1 (.bool true) rfl)) ?_;
    (case hr => first | (go_simp; done) | (go_simp; rfl));
    intro wd150 n_;
    clear H c_z z_z c_s c_d z_d;
    have H := n_;
    clear n_;
    have c_z := H.out.cell (g := gz) mem1;
    have z_z := H.out.frozen (g := gz) mem1;
    have c_s := H.out.cell (g := gs) mem2;
    have c_d := H.out.cell (g := gd) mem3;
    have z_d := H.out.frozen (g := gd) mem3)
 | ((with_reducible refine gate_store (t := 24) (p := 4) rfl ?_);
    refine put_box (rs1 := [row k43 43 (.slice Ao (l).length co) l, box gz [.slice Ao (l).length co, .bool true, .int .i64 0, .int .i64 fa] 24, box gs [.int .u8 k, .string nm, .string dt, .int .i64 n] 38, box gd [.slice Ao (l).length co, .bool true, .int .i64 0, .int .i64 fa] 24]) rfl (t := 24) (p := 4) rfl rfl ?hr (H1 := (Sep.set1 (Sep.set1 (Sep.set1 (Sep.set1 H.out 0 (.slice Ao (l).length co) rfl) 1 (.bool true) rfl) 2 (.int .i64 0) rfl) 3 (.int .i64 fa) rfl)) ?_;
    (case hr => first | (go_simp; done) | (go_simp; rfl));
    intro wd151 n_;
    clear H c_z z_z c_s c_d z_d;
    have H := n_;
    clear n_;
    have c_z := H.out.cell (g := gz) mem1;
    have z_z := H.out.frozen (g := gz) mem1;
    have c_s := H.out.cell (g := gs) mem2;
    have c_d := H.out.cell (g := gd) mem3;
    have z_d := H.out.frozen (g := gd) mem3)
 | fail)
         (try simp only [Exit.inBlock, Exit.then])
         refine bodyPost_ret (results_ct rfl _ _ gz 24 #[.slice Ao (l).length co, .bool true, .int .i64 0, .int .i64 fa] (0, 0) _ rfl (H.out.box_ mem1) Try.underlying24 rfl (by kernel_rfl)) rfl ?_
         exact ⟨_, rfl, sep_own H.out mem0 k43_flat2, H.out.below⟩
       ·
        by_cases hfq : 0 < fu
        ·
         obtain ⟨e1, e2_, e3, e4, e5⟩ : dfF l k nm dt n = l2 ∧ false = dn2 ∧ ux = fu2 ∧ fa = fa2 ∧ 0 = e2 := by
          have h := HD.out
          rw [if_neg hfu, if_pos hfq] at h
          injection h with h1 h; injection h with h2 h; injection h with h3 h; injection h with h4 h5
          exact ⟨h1, h2, h3, h4, h5⟩
         subst e1 e2_ e3 e4 e5
         clear HD
         go_wp2_with (first
 | ((with_reducible refine gate_store (t := 24) (p := 2) rfl ?_);
    refine put_box (rs1 := [row k43 43 (.slice Ao (l).length co) l, box gz [.slice none 0 0, .bool false, .int .i64 0, .int .i64 0] 24, box gs [.int .u8 k, .string nm, .string dt, .int .i64 n] 38, box gd [.slice Ao (l).length co, .bool false, .int .i64 fu, .int .i64 fa] 24]) rfl (t := 24) (p := 2) rfl rfl ?hr (H1 := (Sep.set3 (Sep.set3 (Sep.set3 (Sep.set3 H.out 0 (.slice Ao (l).length co) rfl) 1 (.bool false) rfl) 2 (.int .i64 fu) rfl) 3 (.int .i64 fa) rfl)) ?_;
    (case hr => first | (go_simp; done) | (go_simp; rfl));
    intro wd152 n_;
    clear H c_z z_z c_s c_d z_d;
    have H := n_;
    clear n_;
    have c_z := H.out.cell (g := gz) mem1;
    have z_z := H.out.frozen (g := gz) mem1;
    have c_s := H.out.cell (g := gs) mem2;
    have c_d := H.out.cell (g := gd) mem3;
    have z_d := H.out.frozen (g := gd) mem3)
 | ((with_reducible refine gate_store (t := 3) (p := 66) rfl ?_);
    refine put_box (rs1 := [row k43 43 (.slice Ao (l).length co) l, box gz [.slice none 0 0, .bool false, .int .i64 0, .int .i64 0] 24, box gs [.int .u8 k, .string nm, .string dt, .int .i64 n] 38, box gd [.slice Ao (l).length co, .bool false, .int .i64 ux, .int .i64 fa] 24]) rfl (t := 3) (p := 66) rfl rfl ?hr (H1 := (Sep.set3 H.out 2 (.int .i64 ux) rfl)) ?_;
    (case hr => first | (go_simp; done) | (go_simp; rfl));
    intro wd153 n_;
    clear H c_z z_z c_s c_d z_d;
    have H := n_;
    clear n_;
    have c_z := H.out.cell (g := gz) mem1;
    have z_z := H.out.frozen (g := gz) mem1;
    have c_s := H.out.cell (g := gs) mem2;
    have c_d := H.out.cell (g := gd) mem3;
    have z_d := H.out.frozen (g := gd) mem3)
 | fail)
         refine ((rDone.calls Ao co l false ux fa k nm dt n _ (H.out.reads mem0).2.2 (H.out.reads mem0).2.1 HOK.out hk1 hk5 HR.out).mono ?_)
         rintro e wd154 ⟨v_, rfl, ho_, hb_⟩
         obtain ⟨Ar, cr, eo_⟩ := Kd.R_slice ho_
         subst eo_
         have n_ : Aside0 (Sep w wd154 [row k43 43 (.slice Ar ((dfF l k nm dt n)).length cr) ((dfF l k nm dt n)), row k43 43 (.slice Ao (l).length co) l, box gz [.slice none 0 0, .bool false, .int .i64 0, .int .i64 0] 24, box gs [.int .u8 k, .string nm, .string dt, .int .i64 n] 38, box gd [.slice Ao (l).length co, .bool false, .int .i64 ux, .int .i64 fa] 24]) := ⟨Sep.push_row H.out hb_ ho_ k43_flat⟩
         clear H c_z z_z c_s c_d z_d
         have H := n_
         clear n_
         have c_z := H.out.cell (g := gz) mem2
         have z_z := H.out.frozen (g := gz) mem2
         have c_s := H.out.cell (g := gs) mem3
         have c_d := H.out.cell (g := gd) mem4
         have z_d := H.out.frozen (g := gd) mem4
         clear ho_ hb_
         go_wp2_with (first
 | ((with_reducible refine gate_store (t := 24) (p := 4) rfl ?_);
    refine put_box (rs1 := [row k43 43 (.slice Ar ((dfF l k nm dt n)).length cr) ((dfF l k nm dt n)), row k43 43 (.slice Ao (l).length co) l, box gz [.slice Ar ((dfF l k nm dt n)).length cr, .bool false, .int .i64 ux, .int .i64 fa] 24, box gs [.int .u8 k, .string nm, .string dt, .int .i64 n] 38, box gd [.slice Ao (l).length co, .bool false, .int .i64 ux, .int .i64 fa] 24]) rfl (t := 24) (p := 4) rfl rfl ?hr (H1 := (Sep.set2 (Sep.set2 (Sep.set2 (Sep.set2 H.out 0 (.slice Ar ((dfF l k nm dt n)).length cr) rfl) 1 (.bool false) rfl) 2 (.int .i64 ux) rfl) 3 (.int .i64 fa) rfl)) ?_;
    (case hr => first | (go_simp; done) | (go_simp; rfl));
    intro wd155 n_;
    clear H c_z z_z c_s c_d z_d;
    have H := n_;
    clear n_;
    have c_z := H.out.cell (g := gz) mem2;
    have z_z := H.out.frozen (g := gz) mem2;
    have c_s := H.out.cell (g := gs) mem3;
    have c_d := H.out.cell (g := gd) mem4;
    have z_d := H.out.frozen (g := gd) mem4)
 | fail)
         (try simp only [Exit.inBlock, Exit.then])
         refine bodyPost_ret (results_ct rfl _ _ gz 24 #[.slice Ar ((dfF l k nm dt n)).length cr, .bool false, .int .i64 ux, .int .i64 fa] (0, 0) _ rfl (H.out.box_ mem2) Try.underlying24 rfl (by kernel_rfl)) rfl ?_
         exact ⟨_, rfl, sep_own H.out mem0 k43_flat2, H.out.below⟩
        ·
         obtain ⟨e1, e2_, e3, e4, e5⟩ : dfF l k nm dt n = l2 ∧ false = dn2 ∧ fu = fu2 ∧ fa = fa2 ∧ 0 = e2 := by
          have h := HD.out
          rw [if_neg hfu, if_neg hfq] at h
          injection h with h1 h; injection h with h2 h; injection h with h3 h; injection h with h4 h5
          exact ⟨h1, h2, h3, h4, h5⟩
         subst e1 e2_ e3 e4 e5
         clear HD
         go_wp2_with (first
 | ((with_reducible refine gate_store (t := 24) (p := 2) rfl ?_);
    refine put_box (rs1 := [row k43 43 (.slice Ao (l).length co) l, box gz [.slice none 0 0, .bool false, .int .i64 0, .int .i64 0] 24, box gs [.int .u8 k, .string nm, .string dt, .int .i64 n] 38, box gd [.slice Ao (l).length co, .bool false, .int .i64 fu, .int .i64 fa] 24]) rfl (t := 24) (p := 2) rfl rfl ?hr (H1 := (Sep.set3 (Sep.set3 (Sep.set3 (Sep.set3 H.out 0 (.slice Ao (l).length co) rfl) 1 (.bool false) rfl) 2 (.int .i64 fu) rfl) 3 (.int .i64 fa) rfl)) ?_;
    (case hr => first | (go_simp; done) | (go_simp; rfl));
    intro wd156 n_;
    clear H c_z z_z c_s c_d z_d;
    have H := n_;
    clear n_;
    have c_z := H.out.cell (g := gz) mem1;
    have z_z := H.out.frozen (g := gz) mem1;
    have c_s := H.out.cell (g := gs) mem2;
    have c_d := H.out.cell (g := gd) mem3;
    have z_d := H.out.frozen (g := gd) mem3)
 | fail)
         refine ((rDone.calls Ao co l false fu fa k nm dt n _ (H.out.reads mem0).2.2 (H.out.reads mem0).2.1 HOK.out hk1 hk5 HR.out).mono ?_)
         rintro e wd157 ⟨v_, rfl, ho_, hb_⟩
         obtain ⟨Ar, cr, eo_⟩ := Kd.R_slice ho_
         subst eo_
         have n_ : Aside0 (Sep w wd157 [row k43 43 (.slice Ar ((dfF l k nm dt n)).length cr) ((dfF l k nm dt n)), row k43 43 (.slice Ao (l).length co) l, box gz [.slice none 0 0, .bool false, .int .i64 0, .int .i64 0] 24, box gs [.int .u8 k, .string nm, .string dt, .int .i64 n] 38, box gd [.slice Ao (l).length co, .bool false, .int .i64 fu, .int .i64 fa] 24]) := ⟨Sep.push_row H.out hb_ ho_ k43_flat⟩
         clear H c_z z_z c_s c_d z_d
         have H := n_
         clear n_
         have c_z := H.out.cell (g := gz) mem2
         have z_z := H.out.frozen (g := gz) mem2
         have c_s := H.out.cell (g := gs) mem3
         have c_d := H.out.cell (g := gd) mem4
         have z_d := H.out.frozen (g := gd) mem4
         clear ho_ hb_
         go_wp2_with (first
 | ((with_reducible refine gate_store (t := 24) (p := 4) rfl ?_);
    refine put_box (rs1 := [row k43 43 (.slice Ar ((dfF l k nm dt n)).length cr) ((dfF l k nm dt n)), row k43 43 (.slice Ao (l).length co) l, box gz [.slice Ar ((dfF l k nm dt n)).length cr, .bool false, .int .i64 fu, .int .i64 fa] 24, box gs [.int .u8 k, .string nm, .string dt, .int .i64 n] 38, box gd [.slice Ao (l).length co, .bool false, .int .i64 fu, .int .i64 fa] 24]) rfl (t := 24) (p := 4) rfl rfl ?hr (H1 := (Sep.set2 (Sep.set2 (Sep.set2 (Sep.set2 H.out 0 (.slice Ar ((dfF l k nm dt n)).length cr) rfl) 1 (.bool false) rfl) 2 (.int .i64 fu) rfl) 3 (.int .i64 fa) rfl)) ?_;
    (case hr => first | (go_simp; done) | (go_simp; rfl));
    intro wd158 n_;
    clear H c_z z_z c_s c_d z_d;
    have H := n_;
    clear n_;
    have c_z := H.out.cell (g := gz) mem2;
    have z_z := H.out.frozen (g := gz) mem2;
    have c_s := H.out.cell (g := gs) mem3;
    have c_d := H.out.cell (g := gd) mem4;
    have z_d := H.out.frozen (g := gd) mem4)
 | fail)
         (try simp only [Exit.inBlock, Exit.then])
         refine bodyPost_ret (results_ct rfl _ _ gz 24 #[.slice Ar ((dfF l k nm dt n)).length cr, .bool false, .int .i64 fu, .int .i64 fa] (0, 0) _ rfl (H.out.box_ mem2) Try.underlying24 rfl (by kernel_rfl)) rfl ?_
         exact ⟨_, rfl, sep_own H.out mem0 k43_flat2, H.out.below⟩
    ·
     obtain ⟨rv, hrv⟩ : ∃ rv, rv = refF l k nm dt n := ⟨_, rfl⟩
     rw [← hrv] at hr
     have hd := HD.out
     rw [← hrv] at hd
     clear HD
     have HD := Aside0.mk hd
     clear hd
     have HRV := Aside0.mk hrv
     clear hrv
     obtain ⟨e1, e2_, e3, e4, e5⟩ : l = l2 ∧ false = dn2 ∧ fu = fu2 ∧ fa = fa2 ∧ rv = e2 := by
      have h := HD.out
      rw [if_neg hr] at h
      injection h with h1 h; injection h with h2 h; injection h with h3 h; injection h with h4 h5
      exact ⟨h1, h2, h3, h4, h5⟩
     subst e1 e2_ e3 e4 e5
     clear HD
     go_wp2_with (first
 | ((with_reducible refine gate_dst (N := 2) rfl ?_);
    refine new_box rfl H (cs := [.slice A l.length c, .bool false, .int .i64 fu, .int .i64 fa]) (t := 24) ?hr ?_;
    (case hr => first | (go_simp; done) | (go_simp; rfl));
    intro gd wd159 n_;
    simp only [Act.put, List.setIfInBounds_toArray, List.set_cons_zero, List.set_cons_succ];
    clear H;
    have H := n_;
    clear n_;
    have c_d := H.out.cell (g := gd) mem0;
    have z_d := H.out.frozen (g := gd) mem0)
 | ((with_reducible refine gate_dst (N := 3) rfl ?_);
    refine new_box rfl H (cs := [.int .u8 k, .string nm, .string dt, .int .i64 n]) (t := 38) ?hr ?_;
    (case hr => first | (go_simp; done) | (go_simp; rfl));
    intro gs wd160 n_;
    simp only [Act.put, List.setIfInBounds_toArray, List.set_cons_zero, List.set_cons_succ];
    clear H c_d z_d;
    have H := n_;
    clear n_;
    have c_s := H.out.cell (g := gs) mem0;
    have c_d := H.out.cell (g := gd) mem1;
    have z_d := H.out.frozen (g := gd) mem1)
 | ((with_reducible refine gate_dst (N := 4) rfl ?_);
    refine new_box rfl H (cs := [.slice none 0 0, .bool false, .int .i64 0, .int .i64 0]) (t := 24) ?hr ?_;
    (case hr => first | (go_simp; done) | (go_simp; rfl));
    intro gz wd161 n_;
    simp only [Act.put, List.setIfInBounds_toArray, List.set_cons_zero, List.set_cons_succ];
    clear H c_s c_d z_d;
    have H := n_;
    clear n_;
    have c_z := H.out.cell (g := gz) mem0;
    have z_z := H.out.frozen (g := gz) mem0;
    have c_s := H.out.cell (g := gs) mem1;
    have c_d := H.out.cell (g := gd) mem2;
    have z_d := H.out.frozen (g := gd) mem2)
 | fail)
     refine ((rCheck.calls A c l false fu fa _ (H.out.came HRp.out) HCp.out).mono ?_)
     rintro e wd162 ⟨rfl, hb_⟩
     have n_ : Aside0 (Sep w wd162 [box gz [.slice none 0 0, .bool false, .int .i64 0, .int .i64 0] 24, box gs [.int .u8 k, .string nm, .string dt, .int .i64 n] 38, box gd [.slice A l.length c, .bool false, .int .i64 fu, .int .i64 fa] 24]) := ⟨H.out.step hb_⟩
     clear H c_z z_z c_s c_d z_d
     have H := n_
     clear n_
     have c_z := H.out.cell (g := gz) mem0
     have z_z := H.out.frozen (g := gz) mem0
     have c_s := H.out.cell (g := gs) mem1
     have c_d := H.out.cell (g := gd) mem2
     have z_d := H.out.frozen (g := gd) mem2
     clear hb_
     rw [if_pos HOK.out]
     go_wp2_with fail
     refine ((rRefuses.calls A c l false fu fa k nm dt n _ (H.out.came HRp.out) HCp.out HOK.out).mono ?_)
     rintro e wd163 ⟨rfl, hb_⟩
     have n_ : Aside0 (Sep w wd163 [box gz [.slice none 0 0, .bool false, .int .i64 0, .int .i64 0] 24, box gs [.int .u8 k, .string nm, .string dt, .int .i64 n] 38, box gd [.slice A l.length c, .bool false, .int .i64 fu, .int .i64 fa] 24]) := ⟨H.out.step hb_⟩
     clear H c_z z_z c_s c_d z_d
     have H := n_
     clear n_
     have c_z := H.out.cell (g := gz) mem0
     have z_z := H.out.frozen (g := gz) mem0
     have c_s := H.out.cell (g := gs) mem1
     have c_d := H.out.cell (g := gd) mem2
     have z_d := H.out.frozen (g := gd) mem2
     clear hb_
     rw [← HRV.out]
     clear HRV
     go_wp2_with fail
     refine ((penstockref09_Copy.calls A c l false fu fa l false fu fa _ (H.out.came HRp.out) HCp.out (copy_any (by omega) _ _ _)).mono ?_)
     rintro e wd164 ⟨v_, rfl, ho_, hb_⟩
     obtain ⟨Ao, co, eo_⟩ := Kd.R_slice ho_
     subst eo_
     have n_ : Aside0 (Sep w wd164 [row k43 43 (.slice Ao (l).length co) l, box gz [.slice none 0 0, .bool false, .int .i64 0, .int .i64 0] 24, box gs [.int .u8 k, .string nm, .string dt, .int .i64 n] 38, box gd [.slice A l.length c, .bool false, .int .i64 fu, .int .i64 fa] 24]) := ⟨Sep.push_row H.out hb_ ho_ k43_flat⟩
     clear H c_z z_z c_s c_d z_d
     have H := n_
     clear n_
     have c_z := H.out.cell (g := gz) mem1
     have z_z := H.out.frozen (g := gz) mem1
     have c_s := H.out.cell (g := gs) mem2
     have c_d := H.out.cell (g := gd) mem3
     have z_d := H.out.frozen (g := gd) mem3
     clear ho_ hb_
     go_wp2_with (first
 | ((with_reducible refine gate_store (t := 24) (p := 4) rfl ?_);
    refine put_box (rs1 := [row k43 43 (.slice Ao (l).length co) l, box gz [.slice Ao (l).length co, .bool false, .int .i64 fu, .int .i64 fa] 24, box gs [.int .u8 k, .string nm, .string dt, .int .i64 n] 38, box gd [.slice A l.length c, .bool false, .int .i64 fu, .int .i64 fa] 24]) rfl (t := 24) (p := 4) rfl rfl ?hr (H1 := (Sep.set1 (Sep.set1 (Sep.set1 (Sep.set1 H.out 0 (.slice Ao (l).length co) rfl) 1 (.bool false) rfl) 2 (.int .i64 fu) rfl) 3 (.int .i64 fa) rfl)) ?_;
    (case hr => first | (go_simp; done) | (go_simp; rfl));
    intro wd165 n_;
    clear H c_z z_z c_s c_d z_d;
    have H := n_;
    clear n_;
    have c_z := H.out.cell (g := gz) mem1;
    have z_z := H.out.frozen (g := gz) mem1;
    have c_s := H.out.cell (g := gs) mem2;
    have c_d := H.out.cell (g := gd) mem3;
    have z_d := H.out.frozen (g := gd) mem3)
 | fail)
     (try simp only [Exit.inBlock, Exit.then])
     refine bodyPost_ret (results_ct rfl _ _ gz 24 #[.slice Ao (l).length co, .bool false, .int .i64 fu, .int .i64 fa] (0, 0) _ rfl (H.out.box_ mem1) Try.underlying24 rfl (by kernel_rfl)) rfl ?_
     exact ⟨_, rfl, sep_own H.out mem0 k43_flat2, H.out.below⟩
   ·
    obtain ⟨e1, e2_, e3, e4, e5⟩ : l = l2 ∧ true = dn2 ∧ fu = fu2 ∧ fa = fa2 ∧ 17 = e2 := by
     have h := HD.out
     rw [if_pos rfl] at h
     injection h with h1 h; injection h with h2 h; injection h with h3 h; injection h with h4 h5
     exact ⟨h1, h2, h3, h4, h5⟩
    subst e1 e2_ e3 e4 e5
    clear HD
    go_wp2_with (first
 | ((with_reducible refine gate_dst (N := 2) rfl ?_);
    refine new_box rfl H (cs := [.slice A l.length c, .bool true, .int .i64 fu, .int .i64 fa]) (t := 24) ?hr ?_;
    (case hr => first | (go_simp; done) | (go_simp; rfl));
    intro gd wd166 n_;
    simp only [Act.put, List.setIfInBounds_toArray, List.set_cons_zero, List.set_cons_succ];
    clear H;
    have H := n_;
    clear n_;
    have c_d := H.out.cell (g := gd) mem0;
    have z_d := H.out.frozen (g := gd) mem0)
 | ((with_reducible refine gate_dst (N := 3) rfl ?_);
    refine new_box rfl H (cs := [.int .u8 k, .string nm, .string dt, .int .i64 n]) (t := 38) ?hr ?_;
    (case hr => first | (go_simp; done) | (go_simp; rfl));
    intro gs wd167 n_;
    simp only [Act.put, List.setIfInBounds_toArray, List.set_cons_zero, List.set_cons_succ];
    clear H c_d z_d;
    have H := n_;
    clear n_;
    have c_s := H.out.cell (g := gs) mem0;
    have c_d := H.out.cell (g := gd) mem1;
    have z_d := H.out.frozen (g := gd) mem1)
 | ((with_reducible refine gate_dst (N := 4) rfl ?_);
    refine new_box rfl H (cs := [.slice none 0 0, .bool false, .int .i64 0, .int .i64 0]) (t := 24) ?hr ?_;
    (case hr => first | (go_simp; done) | (go_simp; rfl));
    intro gz wd168 n_;
    simp only [Act.put, List.setIfInBounds_toArray, List.set_cons_zero, List.set_cons_succ];
    clear H c_s c_d z_d;
    have H := n_;
    clear n_;
    have c_z := H.out.cell (g := gz) mem0;
    have z_z := H.out.frozen (g := gz) mem0;
    have c_s := H.out.cell (g := gs) mem1;
    have c_d := H.out.cell (g := gd) mem2;
    have z_d := H.out.frozen (g := gd) mem2)
 | fail)
    refine ((rCheck.calls A c l true fu fa _ (H.out.came HRp.out) HCp.out).mono ?_)
    rintro e wd169 ⟨rfl, hb_⟩
    have n_ : Aside0 (Sep w wd169 [box gz [.slice none 0 0, .bool false, .int .i64 0, .int .i64 0] 24, box gs [.int .u8 k, .string nm, .string dt, .int .i64 n] 38, box gd [.slice A l.length c, .bool true, .int .i64 fu, .int .i64 fa] 24]) := ⟨H.out.step hb_⟩
    clear H c_z z_z c_s c_d z_d
    have H := n_
    clear n_
    have c_z := H.out.cell (g := gz) mem0
    have z_z := H.out.frozen (g := gz) mem0
    have c_s := H.out.cell (g := gs) mem1
    have c_d := H.out.cell (g := gd) mem2
    have z_d := H.out.frozen (g := gd) mem2
    clear hb_
    rw [if_pos HOK.out]
    go_wp2_with fail
    refine ((penstockref09_Copy.calls A c l true fu fa l true fu fa _ (H.out.came HRp.out) HCp.out (copy_any (by omega) _ _ _)).mono ?_)
    rintro e wd170 ⟨v_, rfl, ho_, hb_⟩
    obtain ⟨Ao, co, eo_⟩ := Kd.R_slice ho_
    subst eo_
    have n_ : Aside0 (Sep w wd170 [row k43 43 (.slice Ao (l).length co) l, box gz [.slice none 0 0, .bool false, .int .i64 0, .int .i64 0] 24, box gs [.int .u8 k, .string nm, .string dt, .int .i64 n] 38, box gd [.slice A l.length c, .bool true, .int .i64 fu, .int .i64 fa] 24]) := ⟨Sep.push_row H.out hb_ ho_ k43_flat⟩
    clear H c_z z_z c_s c_d z_d
    have H := n_
    clear n_
    have c_z := H.out.cell (g := gz) mem1
    have z_z := H.out.frozen (g := gz) mem1
    have c_s := H.out.cell (g := gs) mem2
    have c_d := H.out.cell (g := gd) mem3
    have z_d := H.out.frozen (g := gd) mem3
    clear ho_ hb_
    go_wp2_with (first
 | ((with_reducible refine gate_store (t := 24) (p := 4) rfl ?_);
    refine put_box (rs1 := [row k43 43 (.slice Ao (l).length co) l, box gz [.slice Ao (l).length co, .bool true, .int .i64 fu, .int .i64 fa] 24, box gs [.int .u8 k, .string nm, .string dt, .int .i64 n] 38, box gd [.slice A l.length c, .bool true, .int .i64 fu, .int .i64 fa] 24]) rfl (t := 24) (p := 4) rfl rfl ?hr (H1 := (Sep.set1 (Sep.set1 (Sep.set1 (Sep.set1 H.out 0 (.slice Ao (l).length co) rfl) 1 (.bool true) rfl) 2 (.int .i64 fu) rfl) 3 (.int .i64 fa) rfl)) ?_;
    (case hr => first | (go_simp; done) | (go_simp; rfl));
    intro wd171 n_;
    clear H c_z z_z c_s c_d z_d;
    have H := n_;
    clear n_;
    have c_z := H.out.cell (g := gz) mem1;
    have z_z := H.out.frozen (g := gz) mem1;
    have c_s := H.out.cell (g := gs) mem2;
    have c_d := H.out.cell (g := gd) mem3;
    have z_d := H.out.frozen (g := gd) mem3)
 | fail)
    (try simp only [Exit.inBlock, Exit.then])
    refine bodyPost_ret (results_ct rfl _ _ gz 24 #[.slice Ao (l).length co, .bool true, .int .i64 fu, .int .i64 fa] (0, 0) _ rfl (H.out.box_ mem1) Try.underlying24 rfl (by kernel_rfl)) rfl ?_
    exact ⟨_, rfl, sep_own H.out mem0 k43_flat2, H.out.below⟩
 ·
  rw [do_bad hok] at HD
  obtain ⟨e1, e2_, e3, e4, e5⟩ : [] = l2 ∧ false = dn2 ∧ 0 = fu2 ∧ 0 = fa2 ∧ 6 = e2 := by
   have h := HD.out
   skip
   injection h with h1 h; injection h with h2 h; injection h with h3 h; injection h with h4 h5
   exact ⟨h1, h2, h3, h4, h5⟩
  subst e1 e2_ e3 e4 e5
  clear HD
  go_wp2_with (first
 | ((with_reducible refine gate_dst (N := 2) rfl ?_);
    refine new_box rfl H (cs := [.slice A l.length c, .bool dn, .int .i64 fu, .int .i64 fa]) (t := 24) ?hr ?_;
    (case hr => first | (go_simp; done) | (go_simp; rfl));
    intro gd wd172 n_;
    simp only [Act.put, List.setIfInBounds_toArray, List.set_cons_zero, List.set_cons_succ];
    clear H;
    have H := n_;
    clear n_;
    have c_d := H.out.cell (g := gd) mem0;
    have z_d := H.out.frozen (g := gd) mem0)
 | ((with_reducible refine gate_dst (N := 3) rfl ?_);
    refine new_box rfl H (cs := [.int .u8 k, .string nm, .string dt, .int .i64 n]) (t := 38) ?hr ?_;
    (case hr => first | (go_simp; done) | (go_simp; rfl));
    intro gs wd173 n_;
    simp only [Act.put, List.setIfInBounds_toArray, List.set_cons_zero, List.set_cons_succ];
    clear H c_d z_d;
    have H := n_;
    clear n_;
    have c_s := H.out.cell (g := gs) mem0;
    have c_d := H.out.cell (g := gd) mem1;
    have z_d := H.out.frozen (g := gd) mem1)
 | ((with_reducible refine gate_dst (N := 4) rfl ?_);
    refine new_box rfl H (cs := [.slice none 0 0, .bool false, .int .i64 0, .int .i64 0]) (t := 24) ?hr ?_;
    (case hr => first | (go_simp; done) | (go_simp; rfl));
    intro gz wd174 n_;
    simp only [Act.put, List.setIfInBounds_toArray, List.set_cons_zero, List.set_cons_succ];
    clear H c_s c_d z_d;
    have H := n_;
    clear n_;
    have c_z := H.out.cell (g := gz) mem0;
    have z_z := H.out.frozen (g := gz) mem0;
    have c_s := H.out.cell (g := gs) mem1;
    have c_d := H.out.cell (g := gd) mem2;
    have z_d := H.out.frozen (g := gd) mem2)
 | fail)
  refine ((rCheck.calls A c l dn fu fa _ (H.out.came HRp.out) HCp.out).mono ?_)
  rintro e wd175 ⟨rfl, hb_⟩
  have n_ : Aside0 (Sep w wd175 [box gz [.slice none 0 0, .bool false, .int .i64 0, .int .i64 0] 24, box gs [.int .u8 k, .string nm, .string dt, .int .i64 n] 38, box gd [.slice A l.length c, .bool dn, .int .i64 fu, .int .i64 fa] 24]) := ⟨H.out.step hb_⟩
  clear H c_z z_z c_s c_d z_d
  have H := n_
  clear n_
  have c_z := H.out.cell (g := gz) mem0
  have z_z := H.out.frozen (g := gz) mem0
  have c_s := H.out.cell (g := gs) mem1
  have c_d := H.out.cell (g := gd) mem2
  have z_d := H.out.frozen (g := gd) mem2
  clear hb_
  rw [if_neg hok]
  go_wp2_with (first
 | ((with_reducible refine gate_store (t := 24) (p := 4) rfl ?_);
    refine put_box (rs1 := [box gz [.slice none 0 0, .bool false, .int .i64 0, .int .i64 0] 24, box gs [.int .u8 k, .string nm, .string dt, .int .i64 n] 38, box gd [.slice A l.length c, .bool dn, .int .i64 fu, .int .i64 fa] 24]) rfl (t := 24) (p := 4) rfl rfl ?hr (H1 := (Sep.set0 (Sep.set0 (Sep.set0 (Sep.set0 H.out 0 (.slice none 0 0) rfl) 1 (.bool false) rfl) 2 (.int .i64 0) rfl) 3 (.int .i64 0) rfl)) ?_;
    (case hr => first | (go_simp; done) | (go_simp; rfl));
    intro wd176 n_;
    clear H c_z z_z c_s c_d z_d;
    have H := n_;
    clear n_;
    have c_z := H.out.cell (g := gz) mem0;
    have z_z := H.out.frozen (g := gz) mem0;
    have c_s := H.out.cell (g := gs) mem1;
    have c_d := H.out.cell (g := gd) mem2;
    have z_d := H.out.frozen (g := gd) mem2)
 | fail)
  (try simp only [Exit.inBlock, Exit.then])
  refine bodyPost_ret (results_ct rfl _ _ gz 24 #[.slice none 0 0, .bool false, .int .i64 0, .int .i64 0] (0, 0) _ rfl (H.out.box_ mem0) Try.underlying24 rfl (by kernel_rfl)) rfl ?_
  exact ⟨_, rfl, Kd.R_nil _ _ _ _ _, H.out.below⟩

end Go.Proofs.Ytanonhipicoigaa.T

namespace Go.Proofs.Ytanonhipicoigaa.T
open Go.RowKit Go.Proofs.YtanonhipicoigaaW.PrintWords Go.Proofs.YtanonhipicoigaaW.PrintLast Go.Proofs.YtanonhipicoigaaW.PrintMore Go.Proofs.Ytanonhipicoigaa.Sp
set_option linter.unusedVariables false
set_option linter.unusedSimpArgs false

theorem crash_eq (l : List S43) (dn : Bool) (fu fa : Int) (ks : List Int) : disk_Crash.f l dn fu fa ks = some (if rightF l = true then crashF l ks else [], false, if rightF l = true then -1 else 0, if rightF l = true then -1 else 0, if rightF l = true then 0 else 6) := by
 unfold disk_Crash.f
 split <;> rfl
theorem mem12 {r0 r1 r2 r3 r4 r5 r6 r7 r8 r9 r10 r11 r : Sp.Res} {post : List Sp.Res} : r ∈ r0 :: r1 :: r2 :: r3 :: r4 :: r5 :: r6 :: r7 :: r8 :: r9 :: r10 :: r11 :: r :: post := by simp
theorem mem13 {r0 r1 r2 r3 r4 r5 r6 r7 r8 r9 r10 r11 r12 r : Sp.Res} {post : List Sp.Res} : r ∈ r0 :: r1 :: r2 :: r3 :: r4 :: r5 :: r6 :: r7 :: r8 :: r9 :: r10 :: r11 :: r12 :: r :: post := by simp
theorem mem14 {r0 r1 r2 r3 r4 r5 r6 r7 r8 r9 r10 r11 r12 r13 r : Sp.Res} {post : List Sp.Res} : r ∈ r0 :: r1 :: r2 :: r3 :: r4 :: r5 :: r6 :: r7 :: r8 :: r9 :: r10 :: r11 :: r12 :: r13 :: r :: post := by simp
theorem mem15 {r0 r1 r2 r3 r4 r5 r6 r7 r8 r9 r10 r11 r12 r13 r14 r : Sp.Res} {post : List Sp.Res} : r ∈ r0 :: r1 :: r2 :: r3 :: r4 :: r5 :: r6 :: r7 :: r8 :: r9 :: r10 :: r11 :: r12 :: r13 :: r14 :: r :: post := by simp
theorem mem16 {r0 r1 r2 r3 r4 r5 r6 r7 r8 r9 r10 r11 r12 r13 r14 r15 r : Sp.Res} {post : List Sp.Res} : r ∈ r0 :: r1 :: r2 :: r3 :: r4 :: r5 :: r6 :: r7 :: r8 :: r9 :: r10 :: r11 :: r12 :: r13 :: r14 :: r15 :: r :: post := by simp
theorem mem17 {r0 r1 r2 r3 r4 r5 r6 r7 r8 r9 r10 r11 r12 r13 r14 r15 r16 r : Sp.Res} {post : List Sp.Res} : r ∈ r0 :: r1 :: r2 :: r3 :: r4 :: r5 :: r6 :: r7 :: r8 :: r9 :: r10 :: r11 :: r12 :: r13 :: r14 :: r15 :: r16 :: r :: post := by simp
set_option maxHeartbeats 8000000 in
set_option maxRecDepth 100000 in
theorem DiskDoes_walk (A : Option Addr) (c : Nat) (l : List S43) (dn : Bool) (fu fa : Int) (k : Int) (nm dt : ByteArray) (n : Int) (nq : ByteArray) (A1 : Option Addr) (c1 : Nat) (ks : List Int) (w : World) (hr : Kd.C k43 w A l.length l) (hc : l.length ≤ c) (hlen : l.length < 3518437208883) (hr1 : Kd.C (Kd.int .i64) w A1 ks.length ks) (hc1 : ks.length ≤ c1) :
  Calls Try.prog 8 #[.agg #[.slice A l.length c, .bool dn, .int .i64 fu, .int .i64 fa], .agg #[.int .u8 k, .string nm, .string dt, .int .i64 n], .string nq, .slice A1 ks.length c1] w fun e w' => e = .returned (.bool true) ∧ Below w.heap.size w w' := by
 have HR1 := Aside0.mk hr1
 have HC1 := Aside0.mk hc1
 have HLEN := Aside0.mk hlen
 clear hr1 hc1 hlen
 obtain ⟨l2, dn2, fu2, fa2, e2, hd⟩ : ∃ l2 dn2 fu2 fa2 e2, doF l dn fu fa k nm dt n = (l2, dn2, fu2, fa2, e2) := ⟨_, _, _, _, _, rfl⟩
 have HD := Aside0.mk hd
 clear hd
 obtain ⟨r1, hr1⟩ : ∃ r, r = (readF l dn nq).1 := ⟨_, rfl⟩
 obtain ⟨r2, hr2⟩ : ∃ r, r = (readF l dn nq).2 := ⟨_, rfl⟩
 obtain ⟨ns, hns⟩ : ∃ r, r = (nameF l dn).1 := ⟨_, rfl⟩
 obtain ⟨ne, hne⟩ : ∃ r, r = (nameF l dn).2 := ⟨_, rfl⟩
 obtain ⟨kl, hkl⟩ : ∃ r, r = (if rightF l = true then crashF l ks else []) := ⟨_, rfl⟩
 obtain ⟨cu, hcu⟩ : ∃ r : Int, r = (if rightF l = true then -1 else 0) := ⟨_, rfl⟩
 obtain ⟨cw, hck⟩ : ∃ r : Int, r = (if rightF l = true then 0 else 6) := ⟨_, rfl⟩
 have QD1 := Aside0.mk (show disk_Read.f l dn fu fa nq = some (r1, r2) by rw [disk_Read_eq, hr1, hr2])
 have QD2 := Aside0.mk (fun A c w hr hc => hr1 ▸ hr2 ▸ rRead.calls A c l dn fu fa nq w hr hc)
 have QN1 := Aside0.mk (show disk_Names.f 70 l dn fu fa = some (ns, ne) by rw [names_eq, hns, hne])
 have QN2 := Aside0.mk (fun A c w hr hc => hns ▸ hne ▸ rNames.calls A c l dn fu fa w hr hc)
 have QC1 := Aside0.mk (show disk_Crash.f l dn fu fa ks = some (kl, false, cu, cu, cw) by rw [crash_eq, hkl, hcu, hck])
 have QC2 := Aside0.mk (fun A c w hr hc => hkl ▸ hcu ▸ hck ▸ rCrash.calls A c l dn fu fa A1 c1 ks w hr hc)
 have QK1 := Aside0.mk (show disk_Check.f l dn fu fa = some cw by rw [disk_Check.f, hck])
 have QK2 := Aside0.mk (fun A c w hr hc => hck ▸ rCheck.calls A c l dn fu fa w hr hc)
 clear hr1 hr2 hns hne hkl hcu hck
 have HRp := Aside0.mk hr
 have HCp := Aside0.mk hc
 have HMX := Aside0.mk (Kd.C_max hr)
 clear hr hc
 have H := Aside0.mk (Sep.start w)
 go_enter Try.func8, Try.ntmps8
 go_wp2_with (first
 | ((with_reducible refine gate_dst (N := 4) rfl ?_);
    refine new_box rfl H (cs := [.slice A l.length c, .bool dn, .int .i64 fu, .int .i64 fa]) (t := 24) ?hr ?_;
    (case hr => first | (go_simp; done) | (go_simp; rfl));
    intro gd wd203 n_;
    simp only [Act.put, List.setIfInBounds_toArray, List.set_cons_zero, List.set_cons_succ];
    clear H;
    have H := n_;
    clear n_;
    have c_d := H.out.cell (g := gd) mem0)
 | ((with_reducible refine gate_dst (N := 5) rfl ?_);
    refine new_box rfl H (cs := [.int .u8 k, .string nm, .string dt, .int .i64 n]) (t := 38) ?hr ?_;
    (case hr => first | (go_simp; done) | (go_simp; rfl));
    intro gs wd204 n_;
    simp only [Act.put, List.setIfInBounds_toArray, List.set_cons_zero, List.set_cons_succ];
    clear H c_d;
    have H := n_;
    clear n_;
    have c_s := H.out.cell (g := gs) mem0;
    have c_d := H.out.cell (g := gd) mem1)
 | fail)
 refine ((penstockref09_Copy.calls A c l dn fu fa l dn fu fa _ (H.out.came HRp.out) HCp.out (copy_any HLEN.out dn fu fa)).mono ?_)
 rintro e wd205 ⟨v_, rfl, ho_, hb_⟩
 obtain ⟨Ag, cg, eo_⟩ := Kd.R_slice ho_
 subst eo_
 have n_ : Aside0 (Sep w wd205 [row k43 43 (.slice Ag (l).length cg) l, box gs [.int .u8 k, .string nm, .string dt, .int .i64 n] 38, box gd [.slice A l.length c, .bool dn, .int .i64 fu, .int .i64 fa] 24]) := ⟨Sep.push_row H.out hb_ ho_ k43_flat⟩
 clear H c_s c_d
 have H := n_
 clear n_
 have c_s := H.out.cell (g := gs) mem1
 have c_d := H.out.cell (g := gd) mem2
 clear ho_ hb_
 go_wp2_with (first
 | ((with_reducible refine gate_dst (N := 9) rfl ?_);
    refine new_box rfl H (cs := [.slice none 0 0, .bool false, .int .i64 0, .int .i64 0]) (t := 24) ?hr ?_;
    (case hr => first | (go_simp; done) | (go_simp; rfl));
    intro gy wd206 n_;
    simp only [Act.put, List.setIfInBounds_toArray, List.set_cons_zero, List.set_cons_succ];
    clear H c_s c_d;
    have H := n_;
    clear n_;
    have c_y := H.out.cell (g := gy) mem0;
    have z_y := H.out.frozen (g := gy) mem0;
    have c_s := H.out.cell (g := gs) mem2;
    have c_d := H.out.cell (g := gd) mem3)
 | ((with_reducible refine gate_store (t := 24) (p := 9) rfl ?_);
    refine put_box (rs1 := [box gy [.slice Ag (l).length cg, .bool dn, .int .i64 fu, .int .i64 fa] 24, row k43 43 (.slice Ag (l).length cg) l, box gs [.int .u8 k, .string nm, .string dt, .int .i64 n] 38, box gd [.slice A l.length c, .bool dn, .int .i64 fu, .int .i64 fa] 24]) rfl (t := 24) (p := 9) rfl rfl ?hr (H1 := (Sep.set0 (Sep.set0 (Sep.set0 (Sep.set0 H.out 0 (.slice Ag (l).length cg) rfl) 1 (.bool dn) rfl) 2 (.int .i64 fu) rfl) 3 (.int .i64 fa) rfl)) ?_;
    (case hr => first | (go_simp; done) | (go_simp; rfl));
    intro wd207 n_;
    clear H c_y z_y c_s c_d;
    have H := n_;
    clear n_;
    have c_y := H.out.cell (g := gy) mem0;
    have z_y := H.out.frozen (g := gy) mem0;
    have c_s := H.out.cell (g := gs) mem2;
    have c_d := H.out.cell (g := gd) mem3)
 | fail)
 refine ((disk_Do.calls Ag cg l dn fu fa k nm dt n l2 dn2 fu2 fa2 e2 _ (H.out.reads mem1).2.2 (H.out.reads mem1).2.1 (by rw [disk_Do_eq, HD.out])).mono ?_)
 rintro e wd208 ⟨v_, rfl, ho_, hb_⟩
 obtain ⟨Aa, ca, eo_⟩ := Kd.R_slice ho_
 subst eo_
 have n_ : Aside0 (Sep w wd208 [row k43 43 (.slice Aa (l2).length ca) l2, box gy [.slice Ag (l).length cg, .bool dn, .int .i64 fu, .int .i64 fa] 24, row k43 43 (.slice Ag (l).length cg) l, box gs [.int .u8 k, .string nm, .string dt, .int .i64 n] 38, box gd [.slice A l.length c, .bool dn, .int .i64 fu, .int .i64 fa] 24]) := ⟨Sep.push_row H.out hb_ ho_ k43_flat⟩
 clear H c_y z_y c_s c_d
 have H := n_
 clear n_
 have c_y := H.out.cell (g := gy) mem1
 have z_y := H.out.frozen (g := gy) mem1
 have c_s := H.out.cell (g := gs) mem3
 have c_d := H.out.cell (g := gd) mem4
 clear ho_ hb_
 go_wp2_with (first
 | ((with_reducible refine gate_dst (N := 10) rfl ?_);
    refine new_box rfl H (cs := [.slice none 0 0, .bool false, .int .i64 0, .int .i64 0]) (t := 24) ?hr ?_;
    (case hr => first | (go_simp; done) | (go_simp; rfl));
    intro gba wd209 n_;
    simp only [Act.put, List.setIfInBounds_toArray, List.set_cons_zero, List.set_cons_succ];
    clear H c_y z_y c_s c_d;
    have H := n_;
    clear n_;
    have c_ba := H.out.cell (g := gba) mem0;
    have z_ba := H.out.frozen (g := gba) mem0;
    have c_y := H.out.cell (g := gy) mem2;
    have c_s := H.out.cell (g := gs) mem4;
    have c_d := H.out.cell (g := gd) mem5)
 | ((with_reducible refine gate_store (t := 24) (p := 10) rfl ?_);
    refine put_box (rs1 := [box gba [.slice Aa (l2).length ca, .bool dn2, .int .i64 fu2, .int .i64 fa2] 24, row k43 43 (.slice Aa (l2).length ca) l2, box gy [.slice Ag (l).length cg, .bool dn, .int .i64 fu, .int .i64 fa] 24, row k43 43 (.slice Ag (l).length cg) l, box gs [.int .u8 k, .string nm, .string dt, .int .i64 n] 38, box gd [.slice A l.length c, .bool dn, .int .i64 fu, .int .i64 fa] 24]) rfl (t := 24) (p := 10) rfl rfl ?hr (H1 := (Sep.set0 (Sep.set0 (Sep.set0 (Sep.set0 H.out 0 (.slice Aa (l2).length ca) rfl) 1 (.bool dn2) rfl) 2 (.int .i64 fu2) rfl) 3 (.int .i64 fa2) rfl)) ?_;
    (case hr => first | (go_simp; done) | (go_simp; rfl));
    intro wd210 n_;
    clear H c_ba z_ba c_y c_s c_d;
    have H := n_;
    clear n_;
    have c_ba := H.out.cell (g := gba) mem0;
    have z_ba := H.out.frozen (g := gba) mem0;
    have c_y := H.out.cell (g := gy) mem2;
    have c_s := H.out.cell (g := gs) mem4;
    have c_d := H.out.cell (g := gd) mem5)
 | fail)
 refine ((rDo.calls A c l dn fu fa k nm dt n l2 dn2 fu2 fa2 e2 _ (H.out.came HRp.out) HCp.out HLEN.out HD.out).mono ?_)
 rintro e wd211 ⟨v_, rfl, ho_, hb_⟩
 obtain ⟨Ab, cb, eo_⟩ := Kd.R_slice ho_
 subst eo_
 have n_ : Aside0 (Sep w wd211 [row k43 43 (.slice Ab (l2).length cb) l2, box gba [.slice Aa (l2).length ca, .bool dn2, .int .i64 fu2, .int .i64 fa2] 24, row k43 43 (.slice Aa (l2).length ca) l2, box gy [.slice Ag (l).length cg, .bool dn, .int .i64 fu, .int .i64 fa] 24, row k43 43 (.slice Ag (l).length cg) l, box gs [.int .u8 k, .string nm, .string dt, .int .i64 n] 38, box gd [.slice A l.length c, .bool dn, .int .i64 fu, .int .i64 fa] 24]) := ⟨Sep.push_row H.out hb_ ho_ k43_flat⟩
 clear H c_ba z_ba c_y c_s c_d
 have H := n_
 clear n_
 have c_ba := H.out.cell (g := gba) mem1
 have c_y := H.out.cell (g := gy) mem3
 have c_s := H.out.cell (g := gs) mem5
 have c_d := H.out.cell (g := gd) mem6
 clear ho_ hb_
 go_wp2_with (first
 | ((with_reducible refine gate_dst (N := 12) rfl ?_);
    refine new_box rfl H (cs := [.slice none 0 0, .bool false, .int .i64 0, .int .i64 0]) (t := 24) ?hr ?_;
    (case hr => first | (go_simp; done) | (go_simp; rfl));
    intro gbb wd212 n_;
    simp only [Act.put, List.setIfInBounds_toArray, List.set_cons_zero, List.set_cons_succ];
    clear H c_ba c_y c_s c_d;
    have H := n_;
    clear n_;
    have c_bb := H.out.cell (g := gbb) mem0;
    have z_bb := H.out.frozen (g := gbb) mem0;
    have c_ba := H.out.cell (g := gba) mem2;
    have c_y := H.out.cell (g := gy) mem4;
    have c_s := H.out.cell (g := gs) mem6;
    have c_d := H.out.cell (g := gd) mem7)
 | ((with_reducible refine gate_store (t := 24) (p := 12) rfl ?_);
    refine put_box (rs1 := [box gbb [.slice Ab (l2).length cb, .bool dn2, .int .i64 fu2, .int .i64 fa2] 24, row k43 43 (.slice Ab (l2).length cb) l2, box gba [.slice Aa (l2).length ca, .bool dn2, .int .i64 fu2, .int .i64 fa2] 24, row k43 43 (.slice Aa (l2).length ca) l2, box gy [.slice Ag (l).length cg, .bool dn, .int .i64 fu, .int .i64 fa] 24, row k43 43 (.slice Ag (l).length cg) l, box gs [.int .u8 k, .string nm, .string dt, .int .i64 n] 38, box gd [.slice A l.length c, .bool dn, .int .i64 fu, .int .i64 fa] 24]) rfl (t := 24) (p := 12) rfl rfl ?hr (H1 := (Sep.set0 (Sep.set0 (Sep.set0 (Sep.set0 H.out 0 (.slice Ab (l2).length cb) rfl) 1 (.bool dn2) rfl) 2 (.int .i64 fu2) rfl) 3 (.int .i64 fa2) rfl)) ?_;
    (case hr => first | (go_simp; done) | (go_simp; rfl));
    intro wd213 n_;
    clear H c_bb z_bb c_ba c_y c_s c_d;
    have H := n_;
    clear n_;
    have c_bb := H.out.cell (g := gbb) mem0;
    have z_bb := H.out.frozen (g := gbb) mem0;
    have c_ba := H.out.cell (g := gba) mem2;
    have c_y := H.out.cell (g := gy) mem4;
    have c_s := H.out.cell (g := gs) mem6;
    have c_d := H.out.cell (g := gd) mem7)
 | fail)
 refine ((rCall.calls Ag cg l dn fu fa k nm dt n l2 dn2 fu2 fa2 e2 _ (H.out.reads mem5).2.2 (H.out.reads mem5).2.1 HD.out).mono ?_)
 rintro e wd214 ⟨v_, rfl, ho_, hb_⟩
 obtain ⟨Ac, cc, eo_⟩ := Kd.R_slice ho_
 subst eo_
 have n_ : Aside0 (Sep w wd214 [row k43 43 (.slice Ac (l2).length cc) l2, box gbb [.slice Ab (l2).length cb, .bool dn2, .int .i64 fu2, .int .i64 fa2] 24, row k43 43 (.slice Ab (l2).length cb) l2, box gba [.slice Aa (l2).length ca, .bool dn2, .int .i64 fu2, .int .i64 fa2] 24, row k43 43 (.slice Aa (l2).length ca) l2, box gy [.slice Ag (l).length cg, .bool dn, .int .i64 fu, .int .i64 fa] 24, row k43 43 (.slice Ag (l).length cg) l, box gs [.int .u8 k, .string nm, .string dt, .int .i64 n] 38, box gd [.slice A l.length c, .bool dn, .int .i64 fu, .int .i64 fa] 24]) := ⟨Sep.push_row H.out hb_ ho_ k43_flat⟩
 clear H c_bb z_bb c_ba c_y c_s c_d
 have H := n_
 clear n_
 have c_bb := H.out.cell (g := gbb) mem1
 have c_ba := H.out.cell (g := gba) mem3
 have c_y := H.out.cell (g := gy) mem5
 have c_s := H.out.cell (g := gs) mem7
 have c_d := H.out.cell (g := gd) mem8
 clear ho_ hb_
 go_wp2_with (first
 | ((with_reducible refine gate_dst (N := 14) rfl ?_);
    refine new_box rfl H (cs := [.slice none 0 0, .bool false, .int .i64 0, .int .i64 0]) (t := 24) ?hr ?_;
    (case hr => first | (go_simp; done) | (go_simp; rfl));
    intro gbc wd215 n_;
    simp only [Act.put, List.setIfInBounds_toArray, List.set_cons_zero, List.set_cons_succ];
    clear H c_bb c_ba c_y c_s c_d;
    have H := n_;
    clear n_;
    have c_bc := H.out.cell (g := gbc) mem0;
    have z_bc := H.out.frozen (g := gbc) mem0;
    have c_bb := H.out.cell (g := gbb) mem2;
    have c_ba := H.out.cell (g := gba) mem4;
    have c_y := H.out.cell (g := gy) mem6;
    have c_s := H.out.cell (g := gs) mem8;
    have c_d := H.out.cell (g := gd) mem9)
 | ((with_reducible refine gate_store (t := 24) (p := 14) rfl ?_);
    refine put_box (rs1 := [box gbc [.slice Ac (l2).length cc, .bool dn2, .int .i64 fu2, .int .i64 fa2] 24, row k43 43 (.slice Ac (l2).length cc) l2, box gbb [.slice Ab (l2).length cb, .bool dn2, .int .i64 fu2, .int .i64 fa2] 24, row k43 43 (.slice Ab (l2).length cb) l2, box gba [.slice Aa (l2).length ca, .bool dn2, .int .i64 fu2, .int .i64 fa2] 24, row k43 43 (.slice Aa (l2).length ca) l2, box gy [.slice Ag (l).length cg, .bool dn, .int .i64 fu, .int .i64 fa] 24, row k43 43 (.slice Ag (l).length cg) l, box gs [.int .u8 k, .string nm, .string dt, .int .i64 n] 38, box gd [.slice A l.length c, .bool dn, .int .i64 fu, .int .i64 fa] 24]) rfl (t := 24) (p := 14) rfl rfl ?hr (H1 := (Sep.set0 (Sep.set0 (Sep.set0 (Sep.set0 H.out 0 (.slice Ac (l2).length cc) rfl) 1 (.bool dn2) rfl) 2 (.int .i64 fu2) rfl) 3 (.int .i64 fa2) rfl)) ?_;
    (case hr => first | (go_simp; done) | (go_simp; rfl));
    intro wd216 n_;
    clear H c_bc z_bc c_bb c_ba c_y c_s c_d;
    have H := n_;
    clear n_;
    have c_bc := H.out.cell (g := gbc) mem0;
    have z_bc := H.out.frozen (g := gbc) mem0;
    have c_bb := H.out.cell (g := gbb) mem2;
    have c_ba := H.out.cell (g := gba) mem4;
    have c_y := H.out.cell (g := gy) mem6;
    have c_s := H.out.cell (g := gs) mem8;
    have c_d := H.out.cell (g := gd) mem9)
 | fail)
 have n_ : Aside0 (Sep w wd216 [box gbc [.slice Ac (l2).length cc, .bool dn2, .int .i64 fu2, .int .i64 fa2] 24, row k43 43 (.slice Ac (l2).length cc) l2, box gbb [.slice Ab (l2).length cb, .bool dn2, .int .i64 fu2, .int .i64 fa2] 24, row k43 43 (.slice Ab (l2).length cb) l2, box gba [.slice Aa (l2).length ca, .bool dn2, .int .i64 fu2, .int .i64 fa2] 24, row k43 43 (.slice Aa (l2).length ca) l2, box gy [.slice Ag (l).length cg, .bool dn, .int .i64 fu, .int .i64 fa] 24, row k43 43 (.slice Ag (l).length cg) l, box gd [.slice A l.length c, .bool dn, .int .i64 fu, .int .i64 fa] 24]) := ⟨Sep.drop8 H.out⟩
 clear H c_bc z_bc c_bb c_ba c_y c_s c_d
 have H := n_
 clear n_
 have c_bc := H.out.cell (g := gbc) mem0
 have c_bb := H.out.cell (g := gbb) mem2
 have c_ba := H.out.cell (g := gba) mem4
 have c_y := H.out.cell (g := gy) mem6
 have c_d := H.out.cell (g := gd) mem8
 refine ((disk_Read.calls Ag cg l dn fu fa nq r1 r2 _ (H.out.reads mem7).2.2 (H.out.reads mem7).2.1 QD1.out).mono ?_)
 rintro e wd217 ⟨rfl, hb_⟩
 have n_ : Aside0 (Sep w wd217 [box gbc [.slice Ac (l2).length cc, .bool dn2, .int .i64 fu2, .int .i64 fa2] 24, row k43 43 (.slice Ac (l2).length cc) l2, box gbb [.slice Ab (l2).length cb, .bool dn2, .int .i64 fu2, .int .i64 fa2] 24, row k43 43 (.slice Ab (l2).length cb) l2, box gba [.slice Aa (l2).length ca, .bool dn2, .int .i64 fu2, .int .i64 fa2] 24, row k43 43 (.slice Aa (l2).length ca) l2, box gy [.slice Ag (l).length cg, .bool dn, .int .i64 fu, .int .i64 fa] 24, row k43 43 (.slice Ag (l).length cg) l, box gd [.slice A l.length c, .bool dn, .int .i64 fu, .int .i64 fa] 24]) := ⟨H.out.step hb_⟩
 clear H c_bc c_bb c_ba c_y c_d
 have H := n_
 clear n_
 have c_bc := H.out.cell (g := gbc) mem0
 have c_bb := H.out.cell (g := gbb) mem2
 have c_ba := H.out.cell (g := gba) mem4
 have c_y := H.out.cell (g := gy) mem6
 have c_d := H.out.cell (g := gd) mem8
 clear hb_
 go_wp2_with fail
 refine ((QD2.out A c _ (H.out.came HRp.out) HCp.out).mono ?_)
 rintro e wd218 ⟨rfl, hb_⟩
 have n_ : Aside0 (Sep w wd218 [box gbc [.slice Ac (l2).length cc, .bool dn2, .int .i64 fu2, .int .i64 fa2] 24, row k43 43 (.slice Ac (l2).length cc) l2, box gbb [.slice Ab (l2).length cb, .bool dn2, .int .i64 fu2, .int .i64 fa2] 24, row k43 43 (.slice Ab (l2).length cb) l2, box gba [.slice Aa (l2).length ca, .bool dn2, .int .i64 fu2, .int .i64 fa2] 24, row k43 43 (.slice Aa (l2).length ca) l2, box gy [.slice Ag (l).length cg, .bool dn, .int .i64 fu, .int .i64 fa] 24, row k43 43 (.slice Ag (l).length cg) l, box gd [.slice A l.length c, .bool dn, .int .i64 fu, .int .i64 fa] 24]) := ⟨H.out.step hb_⟩
 clear H c_bc c_bb c_ba c_y c_d
 have H := n_
 clear n_
 have c_bc := H.out.cell (g := gbc) mem0
 have c_bb := H.out.cell (g := gbb) mem2
 have c_ba := H.out.cell (g := gba) mem4
 have c_y := H.out.cell (g := gy) mem6
 have c_d := H.out.cell (g := gd) mem8
 clear hb_
 go_wp2_with fail
 refine ((disk_Names.calls 70 Ag cg l dn fu fa ns ne _ (H.out.reads mem7).2.2 (H.out.reads mem7).2.1 QN1.out).mono ?_)
 rintro e wd219 ⟨v_, rfl, ho_, hb_⟩
 obtain ⟨Am, cm, eo_⟩ := Kd.R_slice ho_
 subst eo_
 have n_ : Aside0 (Sep w wd219 [row Kd.string 9 (.slice Am (ns).length cm) ns, box gbc [.slice Ac (l2).length cc, .bool dn2, .int .i64 fu2, .int .i64 fa2] 24, row k43 43 (.slice Ac (l2).length cc) l2, box gbb [.slice Ab (l2).length cb, .bool dn2, .int .i64 fu2, .int .i64 fa2] 24, row k43 43 (.slice Ab (l2).length cb) l2, box gba [.slice Aa (l2).length ca, .bool dn2, .int .i64 fu2, .int .i64 fa2] 24, row k43 43 (.slice Aa (l2).length ca) l2, box gy [.slice Ag (l).length cg, .bool dn, .int .i64 fu, .int .i64 fa] 24, row k43 43 (.slice Ag (l).length cg) l, box gd [.slice A l.length c, .bool dn, .int .i64 fu, .int .i64 fa] 24]) := ⟨Sep.push_row H.out hb_ ho_ flat_string⟩
 clear H c_bc c_bb c_ba c_y c_d
 have H := n_
 clear n_
 have c_bc := H.out.cell (g := gbc) mem1
 have c_bb := H.out.cell (g := gbb) mem3
 have c_ba := H.out.cell (g := gba) mem5
 have c_y := H.out.cell (g := gy) mem7
 have c_d := H.out.cell (g := gd) mem9
 clear ho_ hb_
 go_wp2_with fail
 refine ((QN2.out A c _ (H.out.came HRp.out) HCp.out).mono ?_)
 rintro e wd220 ⟨v_, rfl, ho_, hb_⟩
 obtain ⟨An, cn, eo_⟩ := Kd.R_slice ho_
 subst eo_
 have n_ : Aside0 (Sep w wd220 [row Kd.string 9 (.slice An (ns).length cn) ns, row Kd.string 9 (.slice Am (ns).length cm) ns, box gbc [.slice Ac (l2).length cc, .bool dn2, .int .i64 fu2, .int .i64 fa2] 24, row k43 43 (.slice Ac (l2).length cc) l2, box gbb [.slice Ab (l2).length cb, .bool dn2, .int .i64 fu2, .int .i64 fa2] 24, row k43 43 (.slice Ab (l2).length cb) l2, box gba [.slice Aa (l2).length ca, .bool dn2, .int .i64 fu2, .int .i64 fa2] 24, row k43 43 (.slice Aa (l2).length ca) l2, box gy [.slice Ag (l).length cg, .bool dn, .int .i64 fu, .int .i64 fa] 24, row k43 43 (.slice Ag (l).length cg) l, box gd [.slice A l.length c, .bool dn, .int .i64 fu, .int .i64 fa] 24]) := ⟨Sep.push_row H.out hb_ ho_ flat_string⟩
 clear H c_bc c_bb c_ba c_y c_d
 have H := n_
 clear n_
 have c_bc := H.out.cell (g := gbc) mem2
 have c_bb := H.out.cell (g := gbb) mem4
 have c_ba := H.out.cell (g := gba) mem6
 have c_y := H.out.cell (g := gy) mem8
 have c_d := H.out.cell (g := gd) mem10
 clear ho_ hb_
 go_wp2_with fail
 refine ((disk_Crash.calls Ag cg l dn fu fa A1 c1 ks kl false cu cu cw _ (H.out.reads mem9).2.2 (H.out.reads mem9).2.1 (H.out.came HR1.out) HC1.out QC1.out).mono ?_)
 rintro e wd221 ⟨v_, rfl, ho_, hb_⟩
 obtain ⟨Ak, ck, eo_⟩ := Kd.R_slice ho_
 subst eo_
 have n_ : Aside0 (Sep w wd221 [row k43 43 (.slice Ak (kl).length ck) kl, row Kd.string 9 (.slice An (ns).length cn) ns, row Kd.string 9 (.slice Am (ns).length cm) ns, box gbc [.slice Ac (l2).length cc, .bool dn2, .int .i64 fu2, .int .i64 fa2] 24, row k43 43 (.slice Ac (l2).length cc) l2, box gbb [.slice Ab (l2).length cb, .bool dn2, .int .i64 fu2, .int .i64 fa2] 24, row k43 43 (.slice Ab (l2).length cb) l2, box gba [.slice Aa (l2).length ca, .bool dn2, .int .i64 fu2, .int .i64 fa2] 24, row k43 43 (.slice Aa (l2).length ca) l2, box gy [.slice Ag (l).length cg, .bool dn, .int .i64 fu, .int .i64 fa] 24, row k43 43 (.slice Ag (l).length cg) l, box gd [.slice A l.length c, .bool dn, .int .i64 fu, .int .i64 fa] 24]) := ⟨Sep.push_row H.out hb_ ho_ k43_flat⟩
 clear H c_bc c_bb c_ba c_y c_d
 have H := n_
 clear n_
 have c_bc := H.out.cell (g := gbc) mem3
 have c_bb := H.out.cell (g := gbb) mem5
 have c_ba := H.out.cell (g := gba) mem7
 have c_y := H.out.cell (g := gy) mem9
 have c_d := H.out.cell (g := gd) mem11
 clear ho_ hb_
 go_wp2_with (first
 | ((with_reducible refine gate_dst (N := 24) rfl ?_);
    refine new_box rfl H (cs := [.slice none 0 0, .bool false, .int .i64 0, .int .i64 0]) (t := 24) ?hr ?_;
    (case hr => first | (go_simp; done) | (go_simp; rfl));
    intro gbk wd222 n_;
    simp only [Act.put, List.setIfInBounds_toArray, List.set_cons_zero, List.set_cons_succ];
    clear H c_bc c_bb c_ba c_y c_d;
    have H := n_;
    clear n_;
    have c_bk := H.out.cell (g := gbk) mem0;
    have z_bk := H.out.frozen (g := gbk) mem0;
    have c_bc := H.out.cell (g := gbc) mem4;
    have c_bb := H.out.cell (g := gbb) mem6;
    have c_ba := H.out.cell (g := gba) mem8;
    have c_y := H.out.cell (g := gy) mem10;
    have c_d := H.out.cell (g := gd) mem12)
 | ((with_reducible refine gate_store (t := 24) (p := 24) rfl ?_);
    refine put_box (rs1 := [box gbk [.slice Ak (kl).length ck, .bool false, .int .i64 cu, .int .i64 cu] 24, row k43 43 (.slice Ak (kl).length ck) kl, row Kd.string 9 (.slice An (ns).length cn) ns, row Kd.string 9 (.slice Am (ns).length cm) ns, box gbc [.slice Ac (l2).length cc, .bool dn2, .int .i64 fu2, .int .i64 fa2] 24, row k43 43 (.slice Ac (l2).length cc) l2, box gbb [.slice Ab (l2).length cb, .bool dn2, .int .i64 fu2, .int .i64 fa2] 24, row k43 43 (.slice Ab (l2).length cb) l2, box gba [.slice Aa (l2).length ca, .bool dn2, .int .i64 fu2, .int .i64 fa2] 24, row k43 43 (.slice Aa (l2).length ca) l2, box gy [.slice Ag (l).length cg, .bool dn, .int .i64 fu, .int .i64 fa] 24, row k43 43 (.slice Ag (l).length cg) l, box gd [.slice A l.length c, .bool dn, .int .i64 fu, .int .i64 fa] 24]) rfl (t := 24) (p := 24) rfl rfl ?hr (H1 := (Sep.set0 (Sep.set0 (Sep.set0 (Sep.set0 H.out 0 (.slice Ak (kl).length ck) rfl) 1 (.bool false) rfl) 2 (.int .i64 cu) rfl) 3 (.int .i64 cu) rfl)) ?_;
    (case hr => first | (go_simp; done) | (go_simp; rfl));
    intro wd223 n_;
    clear H c_bk z_bk c_bc c_bb c_ba c_y c_d;
    have H := n_;
    clear n_;
    have c_bk := H.out.cell (g := gbk) mem0;
    have z_bk := H.out.frozen (g := gbk) mem0;
    have c_bc := H.out.cell (g := gbc) mem4;
    have c_bb := H.out.cell (g := gbb) mem6;
    have c_ba := H.out.cell (g := gba) mem8;
    have c_y := H.out.cell (g := gy) mem10;
    have c_d := H.out.cell (g := gd) mem12)
 | fail)
 refine ((QC2.out A c _ (H.out.came HRp.out) HCp.out (H.out.came HR1.out) HC1.out).mono ?_)
 rintro e wd224 ⟨v_, rfl, ho_, hb_⟩
 obtain ⟨Al, cl, eo_⟩ := Kd.R_slice ho_
 subst eo_
 have n_ : Aside0 (Sep w wd224 [row k43 43 (.slice Al (kl).length cl) kl, box gbk [.slice Ak (kl).length ck, .bool false, .int .i64 cu, .int .i64 cu] 24, row k43 43 (.slice Ak (kl).length ck) kl, row Kd.string 9 (.slice An (ns).length cn) ns, row Kd.string 9 (.slice Am (ns).length cm) ns, box gbc [.slice Ac (l2).length cc, .bool dn2, .int .i64 fu2, .int .i64 fa2] 24, row k43 43 (.slice Ac (l2).length cc) l2, box gbb [.slice Ab (l2).length cb, .bool dn2, .int .i64 fu2, .int .i64 fa2] 24, row k43 43 (.slice Ab (l2).length cb) l2, box gba [.slice Aa (l2).length ca, .bool dn2, .int .i64 fu2, .int .i64 fa2] 24, row k43 43 (.slice Aa (l2).length ca) l2, box gy [.slice Ag (l).length cg, .bool dn, .int .i64 fu, .int .i64 fa] 24, row k43 43 (.slice Ag (l).length cg) l, box gd [.slice A l.length c, .bool dn, .int .i64 fu, .int .i64 fa] 24]) := ⟨Sep.push_row H.out hb_ ho_ k43_flat⟩
 clear H c_bk z_bk c_bc c_bb c_ba c_y c_d
 have H := n_
 clear n_
 have c_bk := H.out.cell (g := gbk) mem1
 have c_bc := H.out.cell (g := gbc) mem5
 have c_bb := H.out.cell (g := gbb) mem7
 have c_ba := H.out.cell (g := gba) mem9
 have c_y := H.out.cell (g := gy) mem11
 have c_d := H.out.cell (g := gd) mem13
 clear ho_ hb_
 go_wp2_with (first
 | ((with_reducible refine gate_dst (N := 26) rfl ?_);
    refine new_box rfl H (cs := [.slice none 0 0, .bool false, .int .i64 0, .int .i64 0]) (t := 24) ?hr ?_;
    (case hr => first | (go_simp; done) | (go_simp; rfl));
    intro gbl wd225 n_;
    simp only [Act.put, List.setIfInBounds_toArray, List.set_cons_zero, List.set_cons_succ];
    clear H c_bk c_bc c_bb c_ba c_y c_d;
    have H := n_;
    clear n_;
    have c_bl := H.out.cell (g := gbl) mem0;
    have z_bl := H.out.frozen (g := gbl) mem0;
    have c_bk := H.out.cell (g := gbk) mem2;
    have c_bc := H.out.cell (g := gbc) mem6;
    have c_bb := H.out.cell (g := gbb) mem8;
    have c_ba := H.out.cell (g := gba) mem10;
    have c_y := H.out.cell (g := gy) mem12;
    have c_d := H.out.cell (g := gd) mem14)
 | ((with_reducible refine gate_store (t := 24) (p := 26) rfl ?_);
    refine put_box (rs1 := [box gbl [.slice Al (kl).length cl, .bool false, .int .i64 cu, .int .i64 cu] 24, row k43 43 (.slice Al (kl).length cl) kl, box gbk [.slice Ak (kl).length ck, .bool false, .int .i64 cu, .int .i64 cu] 24, row k43 43 (.slice Ak (kl).length ck) kl, row Kd.string 9 (.slice An (ns).length cn) ns, row Kd.string 9 (.slice Am (ns).length cm) ns, box gbc [.slice Ac (l2).length cc, .bool dn2, .int .i64 fu2, .int .i64 fa2] 24, row k43 43 (.slice Ac (l2).length cc) l2, box gbb [.slice Ab (l2).length cb, .bool dn2, .int .i64 fu2, .int .i64 fa2] 24, row k43 43 (.slice Ab (l2).length cb) l2, box gba [.slice Aa (l2).length ca, .bool dn2, .int .i64 fu2, .int .i64 fa2] 24, row k43 43 (.slice Aa (l2).length ca) l2, box gy [.slice Ag (l).length cg, .bool dn, .int .i64 fu, .int .i64 fa] 24, row k43 43 (.slice Ag (l).length cg) l, box gd [.slice A l.length c, .bool dn, .int .i64 fu, .int .i64 fa] 24]) rfl (t := 24) (p := 26) rfl rfl ?hr (H1 := (Sep.set0 (Sep.set0 (Sep.set0 (Sep.set0 H.out 0 (.slice Al (kl).length cl) rfl) 1 (.bool false) rfl) 2 (.int .i64 cu) rfl) 3 (.int .i64 cu) rfl)) ?_;
    (case hr => first | (go_simp; done) | (go_simp; rfl));
    intro wd226 n_;
    clear H c_bl z_bl c_bk c_bc c_bb c_ba c_y c_d;
    have H := n_;
    clear n_;
    have c_bl := H.out.cell (g := gbl) mem0;
    have z_bl := H.out.frozen (g := gbl) mem0;
    have c_bk := H.out.cell (g := gbk) mem2;
    have c_bc := H.out.cell (g := gbc) mem6;
    have c_bb := H.out.cell (g := gbb) mem8;
    have c_ba := H.out.cell (g := gba) mem10;
    have c_y := H.out.cell (g := gy) mem12;
    have c_d := H.out.cell (g := gd) mem14)
 | fail)
 refine ((lives.calls true _ rfl).mono ?_)
 rintro e wd227 ⟨rfl, hb_⟩
 have n_ : Aside0 (Sep w wd227 [box gbl [.slice Al (kl).length cl, .bool false, .int .i64 cu, .int .i64 cu] 24, row k43 43 (.slice Al (kl).length cl) kl, box gbk [.slice Ak (kl).length ck, .bool false, .int .i64 cu, .int .i64 cu] 24, row k43 43 (.slice Ak (kl).length ck) kl, row Kd.string 9 (.slice An (ns).length cn) ns, row Kd.string 9 (.slice Am (ns).length cm) ns, box gbc [.slice Ac (l2).length cc, .bool dn2, .int .i64 fu2, .int .i64 fa2] 24, row k43 43 (.slice Ac (l2).length cc) l2, box gbb [.slice Ab (l2).length cb, .bool dn2, .int .i64 fu2, .int .i64 fa2] 24, row k43 43 (.slice Ab (l2).length cb) l2, box gba [.slice Aa (l2).length ca, .bool dn2, .int .i64 fu2, .int .i64 fa2] 24, row k43 43 (.slice Aa (l2).length ca) l2, box gy [.slice Ag (l).length cg, .bool dn, .int .i64 fu, .int .i64 fa] 24, row k43 43 (.slice Ag (l).length cg) l, box gd [.slice A l.length c, .bool dn, .int .i64 fu, .int .i64 fa] 24]) := ⟨H.out.step hb_⟩
 clear H c_bl z_bl c_bk c_bc c_bb c_ba c_y c_d
 have H := n_
 clear n_
 have c_bl := H.out.cell (g := gbl) mem0
 have c_bk := H.out.cell (g := gbk) mem2
 have c_bc := H.out.cell (g := gbc) mem6
 have c_bb := H.out.cell (g := gbb) mem8
 have c_ba := H.out.cell (g := gba) mem10
 have c_y := H.out.cell (g := gy) mem12
 have c_d := H.out.cell (g := gd) mem14
 clear hb_
 go_wp2_with fail
 refine ((penstockref09_Same.calls (l2.length + 2) Aa ca l2 dn2 fu2 fa2 Ab cb l2 dn2 fu2 fa2  true _ (H.out.reads mem11).2.2 (H.out.reads mem11).2.1 (H.out.reads mem9).2.2 (H.out.reads mem9).2.1 (same_any l2 dn2 fu2 fa2 (Kd.C_max (H.out.reads mem11).2.2))).mono ?_)
 rintro e wd228 ⟨rfl, hb_⟩
 have n_ : Aside0 (Sep w wd228 [box gbl [.slice Al (kl).length cl, .bool false, .int .i64 cu, .int .i64 cu] 24, row k43 43 (.slice Al (kl).length cl) kl, box gbk [.slice Ak (kl).length ck, .bool false, .int .i64 cu, .int .i64 cu] 24, row k43 43 (.slice Ak (kl).length ck) kl, row Kd.string 9 (.slice An (ns).length cn) ns, row Kd.string 9 (.slice Am (ns).length cm) ns, box gbc [.slice Ac (l2).length cc, .bool dn2, .int .i64 fu2, .int .i64 fa2] 24, row k43 43 (.slice Ac (l2).length cc) l2, box gbb [.slice Ab (l2).length cb, .bool dn2, .int .i64 fu2, .int .i64 fa2] 24, row k43 43 (.slice Ab (l2).length cb) l2, box gba [.slice Aa (l2).length ca, .bool dn2, .int .i64 fu2, .int .i64 fa2] 24, row k43 43 (.slice Aa (l2).length ca) l2, box gy [.slice Ag (l).length cg, .bool dn, .int .i64 fu, .int .i64 fa] 24, row k43 43 (.slice Ag (l).length cg) l, box gd [.slice A l.length c, .bool dn, .int .i64 fu, .int .i64 fa] 24]) := ⟨H.out.step hb_⟩
 clear H c_bl c_bk c_bc c_bb c_ba c_y c_d
 have H := n_
 clear n_
 have c_bl := H.out.cell (g := gbl) mem0
 have c_bk := H.out.cell (g := gbk) mem2
 have c_bc := H.out.cell (g := gbc) mem6
 have c_bb := H.out.cell (g := gbb) mem8
 have c_ba := H.out.cell (g := gba) mem10
 have c_y := H.out.cell (g := gy) mem12
 have c_d := H.out.cell (g := gd) mem14
 clear hb_
 go_wp2_with fail
 refine ((penstockref09_Same.calls (l2.length + 2) Aa ca l2 dn2 fu2 fa2 Ac cc l2 dn2 fu2 fa2 true _ (H.out.reads mem11).2.2 (H.out.reads mem11).2.1 (H.out.reads mem7).2.2 (H.out.reads mem7).2.1 (same_any l2 dn2 fu2 fa2 (Kd.C_max (H.out.reads mem11).2.2))).mono ?_)
 rintro e wd229 ⟨rfl, hb_⟩
 have n_ : Aside0 (Sep w wd229 [box gbl [.slice Al (kl).length cl, .bool false, .int .i64 cu, .int .i64 cu] 24, row k43 43 (.slice Al (kl).length cl) kl, box gbk [.slice Ak (kl).length ck, .bool false, .int .i64 cu, .int .i64 cu] 24, row k43 43 (.slice Ak (kl).length ck) kl, row Kd.string 9 (.slice An (ns).length cn) ns, row Kd.string 9 (.slice Am (ns).length cm) ns, box gbc [.slice Ac (l2).length cc, .bool dn2, .int .i64 fu2, .int .i64 fa2] 24, row k43 43 (.slice Ac (l2).length cc) l2, box gbb [.slice Ab (l2).length cb, .bool dn2, .int .i64 fu2, .int .i64 fa2] 24, row k43 43 (.slice Ab (l2).length cb) l2, box gba [.slice Aa (l2).length ca, .bool dn2, .int .i64 fu2, .int .i64 fa2] 24, row k43 43 (.slice Aa (l2).length ca) l2, box gy [.slice Ag (l).length cg, .bool dn, .int .i64 fu, .int .i64 fa] 24, row k43 43 (.slice Ag (l).length cg) l, box gd [.slice A l.length c, .bool dn, .int .i64 fu, .int .i64 fa] 24]) := ⟨H.out.step hb_⟩
 clear H c_bl c_bk c_bc c_bb c_ba c_y c_d
 have H := n_
 clear n_
 have c_bl := H.out.cell (g := gbl) mem0
 have c_bk := H.out.cell (g := gbk) mem2
 have c_bc := H.out.cell (g := gbc) mem6
 have c_bb := H.out.cell (g := gbb) mem8
 have c_ba := H.out.cell (g := gba) mem10
 have c_y := H.out.cell (g := gy) mem12
 have c_d := H.out.cell (g := gd) mem14
 clear hb_
 go_upto_region 13 with fail
 refine start_ (n := 31) (S := fun w' => (∀ j : Nat, w'.cell? ⟨gbk, j, none⟩ = [.slice Ak (kl).length ck, .bool false, .int .i64 cu, .int .i64 cu][j]?) ∧ (∀ j : Nat, w'.cell? ⟨gbl, j, none⟩ = [.slice Al (kl).length cl, .bool false, .int .i64 cu, .int .i64 cu][j]?) ∧ (∀ j : Nat, w'.cell? ⟨gy, j, none⟩ = [.slice Ag (l).length cg, .bool dn, .int .i64 fu, .int .i64 fa][j]?) ∧ (∀ j : Nat, w'.cell? ⟨gd, j, none⟩ = [.slice A l.length c, .bool dn, .int .i64 fu, .int .i64 fa][j]?) ∧ Sp.Sep w w' [box gbl [.slice Al (kl).length cl, .bool false, .int .i64 cu, .int .i64 cu] 24, row k43 43 (.slice Al (kl).length cl) kl, box gbk [.slice Ak (kl).length ck, .bool false, .int .i64 cu, .int .i64 cu] 24, row k43 43 (.slice Ak (kl).length ck) kl, row Kd.string 9 (.slice An (ns).length cn) ns, row Kd.string 9 (.slice Am (ns).length cm) ns, box gbc [.slice Ac (l2).length cc, .bool dn2, .int .i64 fu2, .int .i64 fa2] 24, row k43 43 (.slice Ac (l2).length cc) l2, box gbb [.slice Ab (l2).length cb, .bool dn2, .int .i64 fu2, .int .i64 fa2] 24, row k43 43 (.slice Ab (l2).length cb) l2, box gba [.slice Aa (l2).length ca, .bool dn2, .int .i64 fu2, .int .i64 fa2] 24, row k43 43 (.slice Aa (l2).length ca) l2, box gy [.slice Ag (l).length cg, .bool dn, .int .i64 fu, .int .i64 fa] 24, row k43 43 (.slice Ag (l).length cg) l, box gd [.slice A l.length c, .bool dn, .int .i64 fu, .int .i64 fa] 24]) (ds := []) #[false, false, false, false, false, false, false, false, false, false, false, false, false, false, false, false, false, false, false, false, false, false, false, false, false, false, false, false, false, false, false] (by kernel_rfl) rfl rfl ⟨(fun j => ((Sep.drew H.out)).cell (g := gbk) mem2 j), (fun j => ((Sep.drew H.out)).cell (g := gbl) mem0 j), (fun j => ((Sep.drew H.out)).cell (g := gy) mem12 j), (fun j => ((Sep.drew H.out)).cell (g := gd) mem14 j), (Sep.drew H.out)⟩ (fun hHeld => ?_)
 refine pure_ (i := 0) (N := some 116) (v := ?_) (a' := ?_) #[true, false, false, false, false, false, false, false, false, false, false, false, false, false, false, false, false, false, false, false, false, false, false, false, false, false, false, false, false, false, false] rfl rfl (by kernel_rfl) (fun _ _ _ h => h) (Or.inl ⟨by rfl, ?_⟩) ?_ ?_
 rotate_left
 ·
  intro w'
  go_simp
  with_reducible rfl
 rotate_left
 ·
  simp only [Act.put, List.setIfInBounds_toArray, List.set_cons_zero, List.set_cons_succ, i64_w, i32_w]
  rfl
 refine pure_ (i := 1) (N := some 117) (v := ?_) (a' := ?_) #[true, true, false, false, false, false, false, false, false, false, false, false, false, false, false, false, false, false, false, false, false, false, false, false, false, false, false, false, false, false, false] rfl rfl (by kernel_rfl) (fun _ _ _ h => h) (Or.inl ⟨by rfl, ?_⟩) ?_ ?_
 rotate_left
 ·
  intro w'
  go_simp
  with_reducible rfl
 rotate_left
 ·
  simp only [Act.put, List.setIfInBounds_toArray, List.set_cons_zero, List.set_cons_succ, i64_w, i32_w]
  rfl
 refine one_ (i := 2) (N := some 118) #[true, true, true, false, false, false, false, false, false, false, false, false, false, false, false, false, false, false, false, false, false, false, false, false, false, false, false, false, false, false, false] rfl rfl (by kernel_rfl) (by decide) (fun K hK => ?_)
 refine goes_ Try.func25 (by kernel_rfl) rfl #[.slice Am (ns).length cm, .slice An (ns).length cn] (by rfl) rfl rfl (by simp only [List.map_toArray, List.map_cons, List.map_nil]; rfl) ?_
 with_reducible refine (penstockref09_Texts.calls (ns.length + 1) Am cm ns An cn ns true _ (Sep.reads hHeld.2.2.2.2 mem5).2.2 (Sep.reads hHeld.2.2.2.2 mem5).2.1 (Sep.reads hHeld.2.2.2.2 mem4).2.2 (Sep.reads hHeld.2.2.2.2 mem4).2.1 (texts_refl ns (Kd.C_max (Sep.reads hHeld.2.2.2.2 mem5).2.2))).mono ?_
 rintro e w3 ⟨rfl, hb⟩
 refine ⟨_, rfl, ?_⟩
 refine hK.out _ _ ⟨(fun j => ((Sep.step hHeld.2.2.2.2 (Drawn0.below hb))).cell (g := gbk) mem2 j), (fun j => ((Sep.step hHeld.2.2.2.2 (Drawn0.below hb))).cell (g := gbl) mem0 j), (fun j => ((Sep.step hHeld.2.2.2.2 (Drawn0.below hb))).cell (g := gy) mem12 j), (fun j => ((Sep.step hHeld.2.2.2.2 (Drawn0.below hb))).cell (g := gd) mem14 j), (Sep.step hHeld.2.2.2.2 (Drawn0.below hb))⟩ (fun hHeld => ?_)
 clear hK K
 refine norm_ (a' := ?_) ?_ ?_
 rotate_left
 ·
  show Act.put _ (some 118) _ = _
  simp only [Act.put, List.setIfInBounds_toArray, List.set_cons_zero, List.set_cons_succ, i64_w, i32_w]
  rfl
 refine pure_ (i := 3) (N := some 119) (v := ?_) (a' := ?_) #[true, true, true, true, false, false, false, false, false, false, false, false, false, false, false, false, false, false, false, false, false, false, false, false, false, false, false, false, false, false, false] rfl rfl (by kernel_rfl) (fun _ _ _ h => h) (Or.inl ⟨by rfl, ?_⟩) ?_ ?_
 rotate_left
 ·
  intro w'
  go_simp
  with_reducible rfl
 rotate_left
 ·
  simp only [Act.put, List.setIfInBounds_toArray, List.set_cons_zero, List.set_cons_succ, i64_w, i32_w]
  rfl
 refine pure_ (i := 4) (N := some 120) (v := ?_) (a' := ?_) #[true, true, true, true, true, false, false, false, false, false, false, false, false, false, false, false, false, false, false, false, false, false, false, false, false, false, false, false, false, false, false] rfl rfl (by kernel_rfl) (fun _ _ _ h => h) (Or.inl ⟨by rfl, ?_⟩) ?_ ?_
 rotate_left
 ·
  intro w'
  go_simp
  with_reducible rfl
 rotate_left
 ·
  simp only [Act.put, List.setIfInBounds_toArray, List.set_cons_zero, List.set_cons_succ, i64_w, i32_w]
  rfl
 refine pure_ (i := 5) (N := some 121) (v := ?_) (a' := ?_) #[true, true, true, true, true, true, false, false, false, false, false, false, false, false, false, false, false, false, false, false, false, false, false, false, false, false, false, false, false, false, false] rfl rfl (by kernel_rfl) (fun _ _ _ h => h) (Or.inl ⟨by rfl, ?_⟩) ?_ ?_
 rotate_left
 ·
  intro w'
  go_simp
  with_reducible rfl
 rotate_left
 ·
  simp only [Act.put, List.setIfInBounds_toArray, List.set_cons_zero, List.set_cons_succ, i64_w, i32_w]
  rfl
 refine pure_ (i := 6) (N := some 122) (v := ?_) (a' := ?_) #[true, true, true, true, true, true, true, false, false, false, false, false, false, false, false, false, false, false, false, false, false, false, false, false, false, false, false, false, false, false, false] rfl rfl (by kernel_rfl) (fun _ _ _ h => h) (Or.inl ⟨by rfl, ?_⟩) ?_ ?_
 rotate_left
 ·
  intro w'
  go_simp
  with_reducible rfl
 rotate_left
 ·
  simp only [Act.put, List.setIfInBounds_toArray, List.set_cons_zero, List.set_cons_succ, i64_w, i32_w]
  rfl
 refine pure_ (i := 7) (N := some 123) (v := ?_) (a' := ?_) #[true, true, true, true, true, true, true, true, false, false, false, false, false, false, false, false, false, false, false, false, false, false, false, false, false, false, false, false, false, false, false] rfl rfl (by kernel_rfl) (fun _ _ _ h => h) (Or.inl ⟨by rfl, ?_⟩) ?_ ?_
 rotate_left
 ·
  intro w'
  go_simp
  with_reducible rfl
 rotate_left
 ·
  simp only [Act.put, List.setIfInBounds_toArray, List.set_cons_zero, List.set_cons_succ, i64_w, i32_w]
  rfl
 refine pure_ (i := 8) (N := some 124) (v := ?_) (a' := ?_) #[true, true, true, true, true, true, true, true, true, false, false, false, false, false, false, false, false, false, false, false, false, false, false, false, false, false, false, false, false, false, false] rfl rfl (by kernel_rfl) (fun _ _ _ h => h) (Or.inl ⟨by rfl, ?_⟩) ?_ ?_
 rotate_left
 ·
  intro w'
  go_simp
  with_reducible rfl
 rotate_left
 ·
  simp only [Act.put, List.setIfInBounds_toArray, List.set_cons_zero, List.set_cons_succ, i64_w, i32_w]
  rfl
 refine take_ (i := 9) (N := some 125) (v := ?_) (a' := ?_) #[true, true, true, true, true, true, true, true, true, true, false, false, false, false, false, false, false, false, false, false, false, false, false, false, false, false, false, false, false, false, false] rfl rfl (by kernel_rfl) (fun _ _ _ h => h) (Or.inl ⟨by rfl, ?_⟩) hHeld ?_ ?_
 rotate_left
 ·
  rintro w' ⟨s0, s1, s2, s3, s4⟩
  go_simp
  with_reducible rfl
 rotate_left
 ·
  simp only [Act.put, List.setIfInBounds_toArray, List.set_cons_zero, List.set_cons_succ, i64_w, i32_w]
  rfl
 refine take_ (i := 10) (N := some 126) (v := ?_) (a' := ?_) #[true, true, true, true, true, true, true, true, true, true, true, false, false, false, false, false, false, false, false, false, false, false, false, false, false, false, false, false, false, false, false] rfl rfl (by kernel_rfl) (fun _ _ _ h => h) (Or.inl ⟨by rfl, ?_⟩) hHeld ?_ ?_
 rotate_left
 ·
  rintro w' ⟨s0, s1, s2, s3, s4⟩
  go_simp
  with_reducible rfl
 rotate_left
 ·
  simp only [Act.put, List.setIfInBounds_toArray, List.set_cons_zero, List.set_cons_succ, i64_w, i32_w]
  rfl
 refine one_ (i := 11) (N := some 127) #[true, true, true, true, true, true, true, true, true, true, true, true, false, false, false, false, false, false, false, false, false, false, false, false, false, false, false, false, false, false, false] rfl rfl (by kernel_rfl) (by decide) (fun K hK => ?_)
 refine goes_ Try.func18 (by kernel_rfl) rfl #[.agg #[.slice Ak (kl).length ck, .bool false, .int .i64 cu, .int .i64 cu], .agg #[.slice Al (kl).length cl, .bool false, .int .i64 cu, .int .i64 cu]] (by rfl) rfl rfl (by simp only [List.map_toArray, List.map_cons, List.map_nil]; rfl) ?_
 with_reducible refine (penstockref09_Same.calls (kl.length + 2) Ak ck kl false cu cu Al cl kl false cu cu true _ (Sep.reads hHeld.2.2.2.2 mem3).2.2 (Sep.reads hHeld.2.2.2.2 mem3).2.1 (Sep.reads hHeld.2.2.2.2 mem1).2.2 (Sep.reads hHeld.2.2.2.2 mem1).2.1 (same_any kl false cu cu (Kd.C_max (Sep.reads hHeld.2.2.2.2 mem3).2.2))).mono ?_
 rintro e w3 ⟨rfl, hb⟩
 refine ⟨_, rfl, ?_⟩
 refine hK.out _ _ ⟨(fun j => ((Sep.step hHeld.2.2.2.2 hb)).cell (g := gbk) mem2 j), (fun j => ((Sep.step hHeld.2.2.2.2 hb)).cell (g := gbl) mem0 j), (fun j => ((Sep.step hHeld.2.2.2.2 hb)).cell (g := gy) mem12 j), (fun j => ((Sep.step hHeld.2.2.2.2 hb)).cell (g := gd) mem14 j), (Sep.step hHeld.2.2.2.2 hb)⟩ (fun hHeld => ?_)
 clear hK K
 refine norm_ (a' := ?_) ?_ ?_
 rotate_left
 ·
  show Act.put _ (some 127) _ = _
  simp only [Act.put, List.setIfInBounds_toArray, List.set_cons_zero, List.set_cons_succ, i64_w, i32_w]
  rfl
 refine pure_ (i := 12) (N := some 128) (v := ?_) (a' := ?_) #[true, true, true, true, true, true, true, true, true, true, true, true, true, false, false, false, false, false, false, false, false, false, false, false, false, false, false, false, false, false, false] rfl rfl (by kernel_rfl) (fun _ _ _ h => h) (Or.inl ⟨by rfl, ?_⟩) ?_ ?_
 rotate_left
 ·
  intro w'
  go_simp
  with_reducible rfl
 rotate_left
 ·
  simp only [Act.put, List.setIfInBounds_toArray, List.set_cons_zero, List.set_cons_succ, i64_w, i32_w]
  rfl
 refine pure_ (i := 13) (N := some 129) (v := ?_) (a' := ?_) #[true, true, true, true, true, true, true, true, true, true, true, true, true, true, false, false, false, false, false, false, false, false, false, false, false, false, false, false, false, false, false] rfl rfl (by kernel_rfl) (fun _ _ _ h => h) (Or.inl ⟨by rfl, ?_⟩) ?_ ?_
 rotate_left
 ·
  intro w'
  go_simp
  with_reducible rfl
 rotate_left
 ·
  simp only [Act.put, List.setIfInBounds_toArray, List.set_cons_zero, List.set_cons_succ, i64_w, i32_w]
  rfl
 refine pure_ (i := 14) (N := some 130) (v := ?_) (a' := ?_) #[true, true, true, true, true, true, true, true, true, true, true, true, true, true, true, false, false, false, false, false, false, false, false, false, false, false, false, false, false, false, false] rfl rfl (by kernel_rfl) (fun _ _ _ h => h) (Or.inl ⟨by rfl, ?_⟩) ?_ ?_
 rotate_left
 ·
  intro w'
  go_simp
  with_reducible rfl
 rotate_left
 ·
  simp only [Act.put, List.setIfInBounds_toArray, List.set_cons_zero, List.set_cons_succ, i64_w, i32_w]
  rfl
 refine pure_ (i := 15) (N := some 131) (v := ?_) (a' := ?_) #[true, true, true, true, true, true, true, true, true, true, true, true, true, true, true, true, false, false, false, false, false, false, false, false, false, false, false, false, false, false, false] rfl rfl (by kernel_rfl) (fun _ _ _ h => h) (Or.inl ⟨by rfl, ?_⟩) ?_ ?_
 rotate_left
 ·
  intro w'
  go_simp
  with_reducible rfl
 rotate_left
 ·
  simp only [Act.put, List.setIfInBounds_toArray, List.set_cons_zero, List.set_cons_succ, i64_w, i32_w]
  rfl
 refine pure_ (i := 16) (N := some 132) (v := ?_) (a' := ?_) #[true, true, true, true, true, true, true, true, true, true, true, true, true, true, true, true, true, false, false, false, false, false, false, false, false, false, false, false, false, false, false] rfl rfl (by kernel_rfl) (fun _ _ _ h => h) (Or.inl ⟨by rfl, ?_⟩) ?_ ?_
 rotate_left
 ·
  intro w'
  go_simp
  with_reducible rfl
 rotate_left
 ·
  simp only [Act.put, List.setIfInBounds_toArray, List.set_cons_zero, List.set_cons_succ, i64_w, i32_w]
  rfl
 refine pure_ (i := 17) (N := some 133) (v := ?_) (a' := ?_) #[true, true, true, true, true, true, true, true, true, true, true, true, true, true, true, true, true, true, false, false, false, false, false, false, false, false, false, false, false, false, false] rfl rfl (by kernel_rfl) (fun _ _ _ h => h) (Or.inl ⟨by rfl, ?_⟩) ?_ ?_
 rotate_left
 ·
  intro w'
  go_simp
  with_reducible rfl
 rotate_left
 ·
  simp only [Act.put, List.setIfInBounds_toArray, List.set_cons_zero, List.set_cons_succ, i64_w, i32_w]
  rfl
 refine pure_ (i := 18) (N := some 134) (v := ?_) (a' := ?_) #[true, true, true, true, true, true, true, true, true, true, true, true, true, true, true, true, true, true, true, false, false, false, false, false, false, false, false, false, false, false, false] rfl rfl (by kernel_rfl) (fun _ _ _ h => h) (Or.inl ⟨by rfl, ?_⟩) ?_ ?_
 rotate_left
 ·
  intro w'
  go_simp
  with_reducible rfl
 rotate_left
 ·
  simp only [Act.put, List.setIfInBounds_toArray, List.set_cons_zero, List.set_cons_succ, i64_w, i32_w]
  rfl
 refine take_ (i := 19) (N := some 135) (v := ?_) (a' := ?_) #[true, true, true, true, true, true, true, true, true, true, true, true, true, true, true, true, true, true, true, true, false, false, false, false, false, false, false, false, false, false, false] rfl rfl (by kernel_rfl) (fun _ _ _ h => h) (Or.inl ⟨by rfl, ?_⟩) hHeld ?_ ?_
 rotate_left
 ·
  rintro w' ⟨s0, s1, s2, s3, s4⟩
  go_simp
  with_reducible rfl
 rotate_left
 ·
  simp only [Act.put, List.setIfInBounds_toArray, List.set_cons_zero, List.set_cons_succ, i64_w, i32_w]
  rfl
 refine take_ (i := 21) (N := some 137) (v := ?_) (a' := ?_) #[true, true, true, true, true, true, true, true, true, true, true, true, true, true, true, true, true, true, true, true, false, true, false, false, false, false, false, false, false, false, false] rfl rfl (by kernel_rfl) (fun _ _ _ h => h) (Or.inl ⟨by rfl, ?_⟩) hHeld ?_ ?_
 rotate_left
 ·
  rintro w' ⟨s0, s1, s2, s3, s4⟩
  go_simp
  with_reducible rfl
 rotate_left
 ·
  simp only [Act.put, List.setIfInBounds_toArray, List.set_cons_zero, List.set_cons_succ, i64_w, i32_w]
  rfl
 refine one_ (i := 20) (N := some 136) #[true, true, true, true, true, true, true, true, true, true, true, true, true, true, true, true, true, true, true, true, true, true, false, false, false, false, false, false, false, false, false] rfl rfl (by kernel_rfl) (by decide) (fun K hK => ?_)
 refine goes_ Try.func15 (by kernel_rfl) rfl #[.agg #[.slice Ag (l).length cg, .bool dn, .int .i64 fu, .int .i64 fa]] (by rfl) rfl rfl (by simp only [List.map_toArray, List.map_cons, List.map_nil]; rfl) ?_
 with_reducible refine (disk_Check.calls Ag cg l dn fu fa cw _ (Sep.reads hHeld.2.2.2.2 mem13).2.2 (Sep.reads hHeld.2.2.2.2 mem13).2.1 QK1.out).mono ?_
 rintro e w3 ⟨rfl, hb⟩
 refine ⟨_, rfl, ?_⟩
 refine hK.out _ _ ⟨(fun j => ((Sep.step hHeld.2.2.2.2 hb)).cell (g := gbk) mem2 j), (fun j => ((Sep.step hHeld.2.2.2.2 hb)).cell (g := gbl) mem0 j), (fun j => ((Sep.step hHeld.2.2.2.2 hb)).cell (g := gy) mem12 j), (fun j => ((Sep.step hHeld.2.2.2.2 hb)).cell (g := gd) mem14 j), (Sep.step hHeld.2.2.2.2 hb)⟩ (fun hHeld => ?_)
 clear hK K
 refine norm_ (a' := ?_) ?_ ?_
 rotate_left
 ·
  show Act.put _ (some 136) _ = _
  simp only [Act.put, List.setIfInBounds_toArray, List.set_cons_zero, List.set_cons_succ, i64_w, i32_w]
  rfl
 refine one_ (i := 22) (N := some 138) #[true, true, true, true, true, true, true, true, true, true, true, true, true, true, true, true, true, true, true, true, true, true, true, false, false, false, false, false, false, false, false] rfl rfl (by kernel_rfl) (by decide) (fun K hK => ?_)
 refine goes_ Try.func26 (by kernel_rfl) rfl #[.agg #[.slice A l.length c, .bool dn, .int .i64 fu, .int .i64 fa]] (by rfl) rfl rfl (by simp only [List.map_toArray, List.map_cons, List.map_nil]; rfl) ?_
 with_reducible refine (QK2.out A c _ (Sep.came hHeld.2.2.2.2 HRp.out) HCp.out).mono ?_
 rintro e w3 ⟨rfl, hb⟩
 refine ⟨_, rfl, ?_⟩
 refine hK.out _ _ ⟨(fun j => ((Sep.step hHeld.2.2.2.2 hb)).cell (g := gbk) mem2 j), (fun j => ((Sep.step hHeld.2.2.2.2 hb)).cell (g := gbl) mem0 j), (fun j => ((Sep.step hHeld.2.2.2.2 hb)).cell (g := gy) mem12 j), (fun j => ((Sep.step hHeld.2.2.2.2 hb)).cell (g := gd) mem14 j), (Sep.step hHeld.2.2.2.2 hb)⟩ (fun hHeld => ?_)
 clear hK K
 refine norm_ (a' := ?_) ?_ ?_
 rotate_left
 ·
  show Act.put _ (some 138) _ = _
  simp only [Act.put, List.setIfInBounds_toArray, List.set_cons_zero, List.set_cons_succ, i64_w, i32_w]
  rfl
 refine pure_ (i := 23) (N := some 139) (v := ?_) (a' := ?_) #[true, true, true, true, true, true, true, true, true, true, true, true, true, true, true, true, true, true, true, true, true, true, true, true, false, false, false, false, false, false, false] rfl rfl (by kernel_rfl) (fun _ _ _ h => h) (Or.inl ⟨by rfl, ?_⟩) ?_ ?_
 rotate_left
 ·
  intro w'
  go_simp
  with_reducible rfl
 rotate_left
 ·
  simp only [Act.put, List.setIfInBounds_toArray, List.set_cons_zero, List.set_cons_succ, i64_w, i32_w]
  rfl
 refine pure_ (i := 24) (N := some 140) (v := ?_) (a' := ?_) #[true, true, true, true, true, true, true, true, true, true, true, true, true, true, true, true, true, true, true, true, true, true, true, true, true, false, false, false, false, false, false] rfl rfl (by kernel_rfl) (fun _ _ _ h => h) (Or.inl ⟨by rfl, ?_⟩) ?_ ?_
 rotate_left
 ·
  intro w'
  go_simp
  with_reducible rfl
 rotate_left
 ·
  simp only [Act.put, List.setIfInBounds_toArray, List.set_cons_zero, List.set_cons_succ, i64_w, i32_w]
  rfl
 refine pure_ (i := 25) (N := some 141) (v := ?_) (a' := ?_) #[true, true, true, true, true, true, true, true, true, true, true, true, true, true, true, true, true, true, true, true, true, true, true, true, true, true, false, false, false, false, false] rfl rfl (by kernel_rfl) (fun _ _ _ h => h) (Or.inl ⟨by rfl, ?_⟩) ?_ ?_
 rotate_left
 ·
  intro w'
  go_simp
  with_reducible rfl
 rotate_left
 ·
  simp only [Act.put, List.setIfInBounds_toArray, List.set_cons_zero, List.set_cons_succ, i64_w, i32_w]
  rfl
 refine take_ (i := 26) (N := some 142) (v := ?_) (a' := ?_) #[true, true, true, true, true, true, true, true, true, true, true, true, true, true, true, true, true, true, true, true, true, true, true, true, true, true, true, false, false, false, false] rfl rfl (by kernel_rfl) (fun _ _ _ h => h) (Or.inl ⟨by rfl, ?_⟩) hHeld ?_ ?_
 rotate_left
 ·
  rintro w' ⟨s0, s1, s2, s3, s4⟩
  go_simp
  with_reducible rfl
 rotate_left
 ·
  simp only [Act.put, List.setIfInBounds_toArray, List.set_cons_zero, List.set_cons_succ, i64_w, i32_w]
  rfl
 refine take_ (i := 27) (N := some 143) (v := ?_) (a' := ?_) #[true, true, true, true, true, true, true, true, true, true, true, true, true, true, true, true, true, true, true, true, true, true, true, true, true, true, true, true, false, false, false] rfl rfl (by kernel_rfl) (fun _ _ _ h => h) (Or.inl ⟨by rfl, ?_⟩) hHeld ?_ ?_
 rotate_left
 ·
  rintro w' ⟨s0, s1, s2, s3, s4⟩
  go_simp
  with_reducible rfl
 rotate_left
 ·
  simp only [Act.put, List.setIfInBounds_toArray, List.set_cons_zero, List.set_cons_succ, i64_w, i32_w]
  rfl
 refine one_ (i := 28) (N := some 144) #[true, true, true, true, true, true, true, true, true, true, true, true, true, true, true, true, true, true, true, true, true, true, true, true, true, true, true, true, true, false, false] rfl rfl (by kernel_rfl) (by decide) (fun K hK => ?_)
 refine goes_ Try.func18 (by kernel_rfl) rfl #[.agg #[.slice Ag (l).length cg, .bool dn, .int .i64 fu, .int .i64 fa], .agg #[.slice A l.length c, .bool dn, .int .i64 fu, .int .i64 fa]] (by rfl) rfl rfl (by simp only [List.map_toArray, List.map_cons, List.map_nil]; rfl) ?_
 with_reducible refine (penstockref09_Same.calls (l.length + 2) Ag cg l dn fu fa A c l dn fu fa true _ (Sep.reads hHeld.2.2.2.2 mem13).2.2 (Sep.reads hHeld.2.2.2.2 mem13).2.1 (Sep.came hHeld.2.2.2.2 HRp.out) HCp.out (same_any l dn fu fa HMX.out)).mono ?_
 rintro e w3 ⟨rfl, hb⟩
 refine ⟨_, rfl, ?_⟩
 refine hK.out _ _ ⟨(fun j => ((Sep.step hHeld.2.2.2.2 hb)).cell (g := gbk) mem2 j), (fun j => ((Sep.step hHeld.2.2.2.2 hb)).cell (g := gbl) mem0 j), (fun j => ((Sep.step hHeld.2.2.2.2 hb)).cell (g := gy) mem12 j), (fun j => ((Sep.step hHeld.2.2.2.2 hb)).cell (g := gd) mem14 j), (Sep.step hHeld.2.2.2.2 hb)⟩ (fun hHeld => ?_)
 clear hK K
 refine norm_ (a' := ?_) ?_ ?_
 rotate_left
 ·
  show Act.put _ (some 144) _ = _
  simp only [Act.put, List.setIfInBounds_toArray, List.set_cons_zero, List.set_cons_succ, i64_w, i32_w]
  rfl
 refine pure_ (i := 29) (N := some 145) (v := ?_) (a' := ?_) #[true, true, true, true, true, true, true, true, true, true, true, true, true, true, true, true, true, true, true, true, true, true, true, true, true, true, true, true, true, true, false] rfl rfl (by kernel_rfl) (fun _ _ _ h => h) (Or.inl ⟨by rfl, ?_⟩) ?_ ?_
 rotate_left
 ·
  intro w'
  go_simp
  with_reducible rfl
 rotate_left
 ·
  simp only [Act.put, List.setIfInBounds_toArray, List.set_cons_zero, List.set_cons_succ, i64_w, i32_w]
  rfl
 refine pure_ (i := 30) (N := some 8) (v := ?_) (a' := ?_) #[true, true, true, true, true, true, true, true, true, true, true, true, true, true, true, true, true, true, true, true, true, true, true, true, true, true, true, true, true, true, true] rfl rfl (by kernel_rfl) (fun _ _ _ h => h) (Or.inl ⟨by rfl, ?_⟩) ?_ ?_
 rotate_left
 ·
  intro w'
  go_simp
  with_reducible rfl
 rotate_left
 ·
  simp only [Act.put, List.setIfInBounds_toArray, List.set_cons_zero, List.set_cons_succ, i64_w, i32_w]
  rfl
 refine done_ (by kernel_rfl) ?_
 go_wp2
 go_ret
 first | exact ⟨rfl, hHeld.2.2.2.2.below⟩ | exact ⟨rfl, (Sep.step hHeld.2.2.2.2 hb).below⟩
end Go.Proofs.Ytanonhipicoigaa.T
