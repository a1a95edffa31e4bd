import Derived.BigRegion
import Derived.Deep.DeepCutAuto
import Derived.Test.YtanonhipicoigaaL5
import Derived.Test.YtanonhipicoigaaG11
import Derived.Test.YtanonhipicoigaaSp1
namespace Go.Proofs.Ytanonhipicoigaa.T
open Go.RowKit Go.Proofs.YtanonhipicoigaaW.PrintWords Go.Proofs.YtanonhipicoigaaW.PrintLast Go.Proofs.YtanonhipicoigaaW.PrintMore Go.Proofs.Ytanonhipicoigaa.Sp
set_option linter.unusedVariables false
set_option linter.unusedSimpArgs false
attribute [local go_sem high] eqA43

set_option maxHeartbeats 8000000 in
set_option maxRecDepth 100000 in
theorem DiskFaults_walk (A : Option Addr) (c : Nat) (l : List S43) (dn : Bool) (fu fa : Int) (k : Int) (nm dt : ByteArray) (n : Int) (k2 : Int) (nm2 dt2 : ByteArray) (n2 : Int) (w : World)
    (hr : Kd.C k43 w A l.length l) (hc : l.length ≤ c) :
    Calls Try.prog 5 #[.agg #[.slice A l.length c, .bool dn, .int .i64 fu, .int .i64 fa], .agg #[.int .u8 k, .string nm, .string dt, .int .i64 n], .agg #[.int .u8 k2, .string nm2, .string dt2, .int .i64 n2]] w fun e w' => e = .returned (.bool true) ∧ Below w.heap.size w w' := by
  have HRp := Aside0.mk hr
  have HCp := Aside0.mk hc
  clear hr hc
  have H := Aside0.mk (Sep.start w)
  go_enter Try.func5, Try.ntmps5
  go_wp2_with (first
      | ((with_reducible refine gate_dst (N := 3) rfl ?_);
          refine new_box rfl H (cs := [.slice A l.length c, .bool dn, .int .i64 fu, .int .i64 fa]) (t := 24) ?hr ?_;
          (case hr => first | (go_simp; done) | (go_simp; rfl));
          intro gd wd1 n_;
          simp only [Act.put, List.setIfInBounds_toArray, List.set_cons_zero, List.set_cons_succ];
          clear H;
          have H := n_;
          clear n_;
          have c_d := H.out.cell (g := gd) mem0;
          have z_d := H.out.frozen (g := gd) mem0)
      | ((with_reducible refine gate_dst (N := 4) rfl ?_);
          refine new_box rfl H (cs := [.int .u8 k, .string nm, .string dt, .int .i64 n]) (t := 38) ?hr ?_;
          (case hr => first | (go_simp; done) | (go_simp; rfl));
          intro gs wd2 n_;
          simp only [Act.put, List.setIfInBounds_toArray, List.set_cons_zero, List.set_cons_succ];
          clear H c_d z_d;
          have H := n_;
          clear n_;
          have c_s := H.out.cell (g := gs) mem0;
          have z_s := H.out.frozen (g := gs) mem0;
          have c_d := H.out.cell (g := gd) mem1;
          have z_d := H.out.frozen (g := gd) mem1)
      | ((with_reducible refine gate_dst (N := 5) rfl ?_);
          refine new_box rfl H (cs := [.int .u8 k2, .string nm2, .string dt2, .int .i64 n2]) (t := 38) ?hr ?_;
          (case hr => first | (go_simp; done) | (go_simp; rfl));
          intro gm wd3 n_;
          simp only [Act.put, List.setIfInBounds_toArray, List.set_cons_zero, List.set_cons_succ];
          clear H c_s z_s c_d z_d;
          have H := n_;
          clear n_;
          have c_m := H.out.cell (g := gm) mem0;
          have z_m := H.out.frozen (g := gm) mem0;
          have c_s := H.out.cell (g := gs) mem1;
          have z_s := H.out.frozen (g := gs) mem1;
          have c_d := H.out.cell (g := gd) mem2;
          have z_d := H.out.frozen (g := gd) mem2)
      | fail)
  refine ((lives.calls true _ rfl).mono ?_)
  rintro e wd4 ⟨rfl, hb_⟩
  have n_ : Aside0 (Sep w wd4 [box gm [.int .u8 k2, .string nm2, .string dt2, .int .i64 n2] 38, box gs [.int .u8 k, .string nm, .string dt, .int .i64 n] 38, box gd [.slice A l.length c, .bool dn, .int .i64 fu, .int .i64 fa] 24]) := ⟨H.out.step hb_⟩
  clear H c_m z_m c_s z_s c_d z_d
  have H := n_
  clear n_
  have c_m := H.out.cell (g := gm) mem0
  have z_m := H.out.frozen (g := gm) mem0
  have c_s := H.out.cell (g := gs) mem1
  have z_s := H.out.frozen (g := gs) mem1
  have c_d := H.out.cell (g := gd) mem2
  have z_d := H.out.frozen (g := gd) mem2
  clear hb_
  go_wp2_with fail
  obtain ⟨l2, dn2, fu2, fa2, e, hdo, hcase⟩ := do_faults l dn fu fa k nm dt n
  refine ((disk_Do.calls A c l dn fu fa k nm dt n l2 dn2 fu2 fa2 e _ (H.out.came HRp.out) HCp.out hdo).mono ?_)
  rintro e wd5 ⟨v_, rfl, ho_, hb_⟩
  obtain ⟨Aa_, ca_, eo_⟩ := Kd.R_slice ho_
  subst eo_
  have n_ : Aside0 (Sep w wd5 [row k43 43 (.slice Aa_ (l2).length ca_) l2, box gm [.int .u8 k2, .string nm2, .string dt2, .int .i64 n2] 38, box gs [.int .u8 k, .string nm, .string dt, .int .i64 n] 38, box gd [.slice A l.length c, .bool dn, .int .i64 fu, .int .i64 fa] 24]) := ⟨Sep.push_row H.out hb_ ho_ k43_flat⟩
  clear H c_m z_m c_s z_s c_d z_d
  have H := n_
  clear n_
  have c_m := H.out.cell (g := gm) mem1
  have z_m := H.out.frozen (g := gm) mem1
  have c_s := H.out.cell (g := gs) mem2
  have z_s := H.out.frozen (g := gs) mem2
  have c_d := H.out.cell (g := gd) mem3
  have z_d := H.out.frozen (g := gd) mem3
  clear ho_ hb_
  have HCASE := Aside0.mk hcase
  clear hcase hdo
  rcases HCASE.out with ⟨he18, he17⟩ | ⟨hok, hok2, hfz, hlast⟩
  · clear HCASE
    have hb18 : (e != 18) = true := bne_iff_ne.mpr he18
    have hb17 : (e != 17) = true := bne_iff_ne.mpr he17
    go_wp2_with (first
        | ((with_reducible refine gate_dst (N := 7) rfl ?_);
            refine new_box rfl H (cs := [.slice none 0 0, .bool false, .int .i64 0, .int .i64 0]) (t := 24) ?hr ?_;
            (case hr => first | (go_simp; done) | (go_simp; rfl));
            intro ga wd6 n_;
            simp only [Act.put, List.setIfInBounds_toArray, List.set_cons_zero, List.set_cons_succ];
            clear H c_m z_m c_s z_s c_d z_d;
            have H := n_;
            clear n_;
            have c_a := H.out.cell (g := ga) mem0;
            have z_a := H.out.frozen (g := ga) mem0;
            have c_m := H.out.cell (g := gm) mem2;
            have z_m := H.out.frozen (g := gm) mem2;
            have c_s := H.out.cell (g := gs) mem3;
            have z_s := H.out.frozen (g := gs) mem3;
            have c_d := H.out.cell (g := gd) mem4;
            have z_d := H.out.frozen (g := gd) mem4)
        | ((with_reducible refine gate_store (t := 24) (p := 7) rfl ?_);
            refine put_box (rs1 := [box ga [.slice Aa_ (l2).length ca_, .bool dn2, .int .i64 fu2, .int .i64 fa2] 24, row k43 43 (.slice Aa_ (l2).length ca_) l2, box gm [.int .u8 k2, .string nm2, .string dt2, .int .i64 n2] 38, box gs [.int .u8 k, .string nm, .string dt, .int .i64 n] 38, box gd [.slice A l.length c, .bool dn, .int .i64 fu, .int .i64 fa] 24]) rfl (t := 24) (p := 7) rfl rfl ?hr (H1 := (Sep.set0 (Sep.set0 (Sep.set0 (Sep.set0 H.out 0 (.slice Aa_ (l2).length ca_) rfl) 1 (.bool dn2) rfl) 2 (.int .i64 fu2) rfl) 3 (.int .i64 fa2) rfl)) ?_;
            (case hr => first | (go_simp; done) | (go_simp; rfl));
            intro wd7 n_;
            clear H c_a z_a c_m z_m c_s z_s c_d z_d;
            have H := n_;
            clear n_;
            have c_a := H.out.cell (g := ga) mem0;
            have z_a := H.out.frozen (g := ga) mem0;
            have c_m := H.out.cell (g := gm) mem2;
            have z_m := H.out.frozen (g := gm) mem2;
            have c_s := H.out.cell (g := gs) mem3;
            have z_s := H.out.frozen (g := gs) mem3;
            have c_d := H.out.cell (g := gd) mem4;
            have z_d := H.out.frozen (g := gd) mem4)
        | fail)
    go_ret
    exact ⟨rfl, H.out.below⟩
  · clear HCASE
    have hl1 := right_len hok
    have hl2 := right_len hok2
    have HFZ := Aside0.mk hfz
    have HOK := Aside0.mk hok
    have HOK2 := Aside0.mk hok2
    have HLL := Aside0.mk (show l2.length = l.length from hfz.1)
    clear hfz hok hok2
    rcases hlast with ⟨rfl, rfl, rfl⟩ | ⟨rfl, rfl⟩
    ·
      go_wp2_with (first
          | ((with_reducible refine gate_dst (N := 7) rfl ?_);
              refine new_box rfl H (cs := [.slice none 0 0, .bool false, .int .i64 0, .int .i64 0]) (t := 24) ?hr ?_;
              (case hr => first | (go_simp; done) | (go_simp; rfl));
              intro ga wd8 n_;
              simp only [Act.put, List.setIfInBounds_toArray, List.set_cons_zero, List.set_cons_succ];
              clear H c_m z_m c_s z_s c_d z_d;
              have H := n_;
              clear n_;
              have c_a := H.out.cell (g := ga) mem0;
              have z_a := H.out.frozen (g := ga) mem0;
              have c_m := H.out.cell (g := gm) mem2;
              have z_m := H.out.frozen (g := gm) mem2;
              have c_s := H.out.cell (g := gs) mem3;
              have z_s := H.out.frozen (g := gs) mem3;
              have c_d := H.out.cell (g := gd) mem4;
              have z_d := H.out.frozen (g := gd) mem4)
          | ((with_reducible refine gate_store (t := 24) (p := 7) rfl ?_);
              refine put_box (rs1 := [box ga [.slice Aa_ (l2).length ca_, .bool false, .int .i64 fu2, .int .i64 (-1)] 24, row k43 43 (.slice Aa_ (l2).length ca_) l2, box gm [.int .u8 k2, .string nm2, .string dt2, .int .i64 n2] 38, box gs [.int .u8 k, .string nm, .string dt, .int .i64 n] 38, box gd [.slice A l.length c, .bool dn, .int .i64 fu, .int .i64 fa] 24]) rfl (t := 24) (p := 7) rfl rfl ?hr (H1 := (Sep.set0 (Sep.set0 (Sep.set0 (Sep.set0 H.out 0 (.slice Aa_ (l2).length ca_) rfl) 1 (.bool false) rfl) 2 (.int .i64 fu2) rfl) 3 (.int .i64 (-1)) rfl)) ?_;
              (case hr => first | (go_simp; done) | (go_simp; rfl));
              intro wd9 n_;
              clear H c_a z_a c_m z_m c_s z_s c_d z_d;
              have H := n_;
              clear n_;
              have c_a := H.out.cell (g := ga) mem0;
              have z_a := H.out.frozen (g := ga) mem0;
              have c_m := H.out.cell (g := gm) mem2;
              have z_m := H.out.frozen (g := gm) mem2;
              have c_s := H.out.cell (g := gs) mem3;
              have z_s := H.out.frozen (g := gs) mem3;
              have c_d := H.out.cell (g := gd) mem4;
              have z_d := H.out.frozen (g := gd) mem4)
          | fail)
      refine ((penstockref09_Copy.calls Aa_ ca_ l2 false fu2 (-1) l2 false fu2 (-1) _ (H.out.reads mem1).2.2 (H.out.reads mem1).2.1 (copy_eq hl2 _ _ _)).mono ?_)
      rintro e wd10 ⟨v_, rfl, ho_, hb_⟩
      obtain ⟨Ab_, cb_, eo_⟩ := Kd.R_slice ho_
      subst eo_
      have n_ : Aside0 (Sep w wd10 [row k43 43 (.slice Ab_ (l2).length cb_) l2, box ga [.slice Aa_ (l2).length ca_, .bool false, .int .i64 fu2, .int .i64 (-1)] 24, row k43 43 (.slice Aa_ (l2).length ca_) l2, box gm [.int .u8 k2, .string nm2, .string dt2, .int .i64 n2] 38, box gs [.int .u8 k, .string nm, .string dt, .int .i64 n] 38, box gd [.slice A l.length c, .bool dn, .int .i64 fu, .int .i64 fa] 24]) := ⟨Sep.push_row H.out hb_ ho_ k43_flat⟩
      clear H c_a z_a c_m z_m c_s z_s c_d z_d
      have H := n_
      clear n_
      have c_a := H.out.cell (g := ga) mem1
      have z_a := H.out.frozen (g := ga) mem1
      have c_m := H.out.cell (g := gm) mem3
      have z_m := H.out.frozen (g := gm) mem3
      have c_s := H.out.cell (g := gs) mem4
      have z_s := H.out.frozen (g := gs) mem4
      have c_d := H.out.cell (g := gd) mem5
      have z_d := H.out.frozen (g := gd) mem5
      clear ho_ hb_
      go_wp2_with (first
          | ((with_reducible refine gate_dst (N := 9) rfl ?_);
              refine new_box rfl H (cs := [.slice none 0 0, .bool false, .int .i64 0, .int .i64 0]) (t := 24) ?hr ?_;
              (case hr => first | (go_simp; done) | (go_simp; rfl));
              intro gb wd11 n_;
              simp only [Act.put, List.setIfInBounds_toArray, List.set_cons_zero, List.set_cons_succ];
              clear H c_a z_a c_m z_m c_s z_s c_d z_d;
              have H := n_;
              clear n_;
              have c_b := H.out.cell (g := gb) mem0;
              have z_b := H.out.frozen (g := gb) mem0;
              have c_a := H.out.cell (g := ga) mem2;
              have z_a := H.out.frozen (g := ga) mem2;
              have c_m := H.out.cell (g := gm) mem4;
              have z_m := H.out.frozen (g := gm) mem4;
              have c_s := H.out.cell (g := gs) mem5;
              have z_s := H.out.frozen (g := gs) mem5;
              have c_d := H.out.cell (g := gd) mem6;
              have z_d := H.out.frozen (g := gd) mem6)
          | ((with_reducible refine gate_store (t := 24) (p := 9) rfl ?_);
              refine put_box (rs1 := [box gb [.slice Ab_ (l2).length cb_, .bool false, .int .i64 fu2, .int .i64 (-1)] 24, row k43 43 (.slice Ab_ (l2).length cb_) l2, box ga [.slice Aa_ (l2).length ca_, .bool false, .int .i64 fu2, .int .i64 (-1)] 24, row k43 43 (.slice Aa_ (l2).length ca_) l2, box gm [.int .u8 k2, .string nm2, .string dt2, .int .i64 n2] 38, box gs [.int .u8 k, .string nm, .string dt, .int .i64 n] 38, box gd [.slice A l.length c, .bool dn, .int .i64 fu, .int .i64 fa] 24]) rfl (t := 24) (p := 9) rfl rfl ?hr (H1 := (Sep.set0 (Sep.set0 (Sep.set0 (Sep.set0 H.out 0 (.slice Ab_ (l2).length cb_) rfl) 1 (.bool false) rfl) 2 (.int .i64 fu2) rfl) 3 (.int .i64 (-1)) rfl)) ?_;
              (case hr => first | (go_simp; done) | (go_simp; rfl));
              intro wd12 n_;
              clear H c_b z_b c_a z_a c_m z_m c_s z_s c_d z_d;
              have H := n_;
              clear n_;
              have c_b := H.out.cell (g := gb) mem0;
              have z_b := H.out.frozen (g := gb) mem0;
              have c_a := H.out.cell (g := ga) mem2;
              have z_a := H.out.frozen (g := ga) mem2;
              have c_m := H.out.cell (g := gm) mem4;
              have z_m := H.out.frozen (g := gm) mem4;
              have c_s := H.out.cell (g := gs) mem5;
              have z_s := H.out.frozen (g := gs) mem5;
              have c_d := H.out.cell (g := gd) mem6;
              have z_d := H.out.frozen (g := gd) mem6)
          | fail)
      go_upto_region 7 with fail
      go_cut [] (fun wx => Aside0 (Sep w wx [box gb [.slice Ab_ (l2).length cb_, .bool dn, .int .i64 fu, .int .i64 fa] 24, row k43 43 (.slice Ab_ (l2).length cb_) l2, box ga [.slice Aa_ (l2).length ca_, .bool false, .int .i64 fu2, .int .i64 (-1)] 24, row k43 43 (.slice Aa_ (l2).length ca_) l2, box gm [.int .u8 k2, .string nm2, .string dt2, .int .i64 n2] 38, box gs [.int .u8 k, .string nm, .string dt, .int .i64 n] 38, box gd [.slice A l.length c, .bool dn, .int .i64 fu, .int .i64 fa] 24]))
      case first =>
        go_region
        all_goals (go_wp2_with fail; go_meet; exact ⟨(Sep.drew (Sep.set0 (Sep.set0 (Sep.set0 H.out 2 (.int .i64 fu) rfl) 3 (.int .i64 fa) rfl) 1 (.bool dn) rfl))⟩)
      case rest =>
        have n_ := hcut
        clear hcut
        clear H c_b z_b c_a z_a c_m z_m c_s z_s c_d z_d
        have H := n_
        clear n_
        have c_b := H.out.cell (g := gb) mem0
        have z_b := H.out.frozen (g := gb) mem0
        have c_a := H.out.cell (g := ga) mem2
        have z_a := H.out.frozen (g := ga) mem2
        have c_m := H.out.cell (g := gm) mem4
        have z_m := H.out.frozen (g := gm) mem4
        have c_s := H.out.cell (g := gs) mem5
        have z_s := H.out.frozen (g := gs) mem5
        have c_d := H.out.cell (g := gd) mem6
        have z_d := H.out.frozen (g := gd) mem6
        have hlq : ((l2.length : Int) == (l.length : Int)) = true := by rw [HLL.out]; simp
        by_cases hk : k = 2
        · subst hk
          go_wp2_with fail
          try any_goals (exfalso; have := HLL.out; omega)
          go_loopw [60] (fun v60 wr => ∃ i : Nat, v60 = .int .i64 (i : Int) ∧ i ≤ l2.length ∧ Aside0 (Sep w wr [box gd [.slice A l.length c, .bool dn, .int .i64 fu, .int .i64 fa] 24, box gs [.int .u8 2, .string nm, .string dt, .int .i64 n] 38, box gm [.int .u8 k2, .string nm2, .string dt2, .int .i64 n2] 38, box ga [.slice Aa_ (l2).length ca_, .bool false, .int .i64 fu2, .int .i64 (-1)] 24, row k43 43 (.slice Aa_ (l2).length ca_) l2, row k43 43 (.slice Ab_ (l2).length cb_) l2]))
            (fun v60 _ => l2.length - (intOf v60).toNat)
          case atStart => exact ⟨0, rfl, by omega, ⟨(Sep.front5 (Sep.front4 (Sep.front3 (Sep.front2 (Sep.front2 (Sep.drop0 H.out))))))⟩⟩
          case round =>
            clear H c_b z_b c_a z_a c_m z_m c_s z_s c_d z_d
            obtain ⟨i, rfl, hi, H⟩ := hrel
            have c_d := H.out.cell (g := gd) mem0
            have z_d := H.out.frozen (g := gd) mem0
            have c_s := H.out.cell (g := gs) mem1
            have z_s := H.out.frozen (g := gs) mem1
            have c_m := H.out.cell (g := gm) mem2
            have z_m := H.out.frozen (g := gm) mem2
            have c_a := H.out.cell (g := ga) mem3
            have z_a := H.out.frozen (g := ga) mem3
            by_cases hil : i < l2.length
            · obtain ⟨x, hx⟩ : ∃ x, l[i]? = some x := ⟨_, List.getElem?_eq_getElem (by have := HLL.out; omega)⟩
              obtain ⟨ad, e1⟩ : ∃ ad, A = some ad := (at_T43 HRp.out (i : Int) (by omega) (by have := HLL.out; omega)).imp fun _ h => h.1
              obtain ⟨ad2, e2⟩ : ∃ ad, Ab_ = some ad := (at_T43 (H.out.reads mem5).2.2 (i : Int) (by omega) (by omega)).imp fun _ h => h.1
              subst e1 e2
              have hi0 : (0 : Int) ≤ (i : Int) := by omega
              have hi1 : (i : Int) < (l.length : Int) := by have := HLL.out; omega
              have hi2 : (i : Int) < (l2.length : Int) := by omega
              have HX := Aside0.mk hx
              rcases HFZ.out.2.2 i x hx with hy | ⟨hn, hs, hy⟩
              ·
                obtain ⟨h3, h4, h5⟩ := at43 (H.out.reads mem5).2.2 hy
                clear hx hy
                go_wp2_with (first
                    | ((with_reducible refine gate_dst (N := 11) rfl ?_);
                        refine new_box rfl H (cs := [.string ⟨#[]⟩, .string ⟨#[]⟩, .int .i64 0]) (t := 43) ?hr ?_;
                        (case hr => first | (go_simp; done) | (go_simp; rfl));
                        intro gf wd14 n_;
                        simp only [Act.put, List.setIfInBounds_toArray, List.set_cons_zero, List.set_cons_succ];
                        clear H c_d z_d c_s z_s c_m z_m c_a z_a;
                        have H := n_;
                        clear n_;
                        have c_f := H.out.cell (g := gf) mem0;
                        have z_f := H.out.frozen (g := gf) mem0;
                        have c_d := H.out.cell (g := gd) mem1;
                        have z_d := H.out.frozen (g := gd) mem1;
                        have c_s := H.out.cell (g := gs) mem2;
                        have z_s := H.out.frozen (g := gs) mem2;
                        have c_m := H.out.cell (g := gm) mem3;
                        have z_m := H.out.frozen (g := gm) mem3;
                        have c_a := H.out.cell (g := ga) mem4;
                        have z_a := H.out.frozen (g := ga) mem4)
                    | ((with_reducible refine gate_store (t := 43) (p := 11) rfl ?_);
                        refine put_box (rs1 := [box gf [.string x.f0, .string x.f1, .int .i64 x.f2] 43, box gd [.slice (some ad) l.length c, .bool dn, .int .i64 fu, .int .i64 fa] 24, box gs [.int .u8 2, .string nm, .string dt, .int .i64 n] 38, box gm [.int .u8 k2, .string nm2, .string dt2, .int .i64 n2] 38, box ga [.slice Aa_ (l2).length ca_, .bool false, .int .i64 fu2, .int .i64 (-1)] 24, row k43 43 (.slice Aa_ (l2).length ca_) l2, row k43 43 (.slice (some ad2) (l2).length cb_) l2]) rfl (t := 43) (p := 11) rfl rfl ?hr (H1 := (Sep.set0 (Sep.set0 (Sep.set0 H.out 0 (.string x.f0) rfl) 1 (.string x.f1) rfl) 2 (.int .i64 x.f2) rfl)) ?_;
                        (case hr => first | (go_simp; done) | (go_simp; rfl));
                        intro wd15 n_;
                        clear H c_f z_f c_d z_d c_s z_s c_m z_m c_a z_a;
                        have H := n_;
                        clear n_;
                        have c_f := H.out.cell (g := gf) mem0;
                        have z_f := H.out.frozen (g := gf) mem0;
                        have c_d := H.out.cell (g := gd) mem1;
                        have z_d := H.out.frozen (g := gd) mem1;
                        have c_s := H.out.cell (g := gs) mem2;
                        have z_s := H.out.frozen (g := gs) mem2;
                        have c_m := H.out.cell (g := gm) mem3;
                        have z_m := H.out.frozen (g := gm) mem3;
                        have c_a := H.out.cell (g := ga) mem4;
                        have z_a := H.out.frozen (g := ga) mem4;
                        clear h3 h4 h5;
                        obtain ⟨h0, h1, h2⟩ := at43 (H.out.came HRp.out) HX.out)
                    | fail)
                go_quiet (fail)
                go_wp2
                refine ⟨⟨i + 1, by congr 1, by omega, ⟨?_⟩⟩, by simp [intOf]; omega⟩
                exact (Sep.drop0 (Sep.drewN H.out _))
              ·
                obtain ⟨h3, h4, h5⟩ := at43 (H.out.reads mem5).2.2 hy
                clear hx hy
                have hq1 : (!x.f0.toList == nm.toList) = false := by simp [hn]
                have hq2 : (!(x.f1 ++ dt).toList == (x.f1 ++ dt).toList) = false := by simp
                cases hq3 : ((x.f1 ++ dt).toList == x.f1.toList)
                ·
                  have hq4 : (!(x.f1 ++ dt).toList == x.f1.toList) = true := by simp [hq3]
                  go_wp2_with (first
                      | ((with_reducible refine gate_dst (N := 11) rfl ?_);
                          refine new_box rfl H (cs := [.string ⟨#[]⟩, .string ⟨#[]⟩, .int .i64 0]) (t := 43) ?hr ?_;
                          (case hr => first | (go_simp; done) | (go_simp; rfl));
                          intro gf wd16 n_;
                          simp only [Act.put, List.setIfInBounds_toArray, List.set_cons_zero, List.set_cons_succ];
                          clear H c_d z_d c_s z_s c_m z_m c_a z_a;
                          have H := n_;
                          clear n_;
                          have c_f := H.out.cell (g := gf) mem0;
                          have z_f := H.out.frozen (g := gf) mem0;
                          have c_d := H.out.cell (g := gd) mem1;
                          have z_d := H.out.frozen (g := gd) mem1;
                          have c_s := H.out.cell (g := gs) mem2;
                          have z_s := H.out.frozen (g := gs) mem2;
                          have c_m := H.out.cell (g := gm) mem3;
                          have z_m := H.out.frozen (g := gm) mem3;
                          have c_a := H.out.cell (g := ga) mem4;
                          have z_a := H.out.frozen (g := ga) mem4)
                      | ((with_reducible refine gate_store (t := 43) (p := 11) rfl ?_);
                          refine put_box (rs1 := [box gf [.string x.f0, .string (x.f1 ++ dt), .int .i64 x.f2] 43, box gd [.slice (some ad) l.length c, .bool dn, .int .i64 fu, .int .i64 fa] 24, box gs [.int .u8 2, .string nm, .string dt, .int .i64 n] 38, box gm [.int .u8 k2, .string nm2, .string dt2, .int .i64 n2] 38, box ga [.slice Aa_ (l2).length ca_, .bool false, .int .i64 fu2, .int .i64 (-1)] 24, row k43 43 (.slice Aa_ (l2).length ca_) l2, row k43 43 (.slice (some ad2) (l2).length cb_) l2]) rfl (t := 43) (p := 11) rfl rfl ?hr (H1 := (Sep.set0 (Sep.set0 (Sep.set0 H.out 0 (.string x.f0) rfl) 1 (.string (x.f1 ++ dt)) rfl) 2 (.int .i64 x.f2) rfl)) ?_;
                          (case hr => first | (go_simp; done) | (go_simp; rfl));
                          intro wd17 n_;
                          clear H c_f z_f c_d z_d c_s z_s c_m z_m c_a z_a;
                          have H := n_;
                          clear n_;
                          have c_f := H.out.cell (g := gf) mem0;
                          have z_f := H.out.frozen (g := gf) mem0;
                          have c_d := H.out.cell (g := gd) mem1;
                          have z_d := H.out.frozen (g := gd) mem1;
                          have c_s := H.out.cell (g := gs) mem2;
                          have z_s := H.out.frozen (g := gs) mem2;
                          have c_m := H.out.cell (g := gm) mem3;
                          have z_m := H.out.frozen (g := gm) mem3;
                          have c_a := H.out.cell (g := ga) mem4;
                          have z_a := H.out.frozen (g := ga) mem4;
                          clear h3 h4 h5;
                          obtain ⟨h0, h1, h2⟩ := at43 (H.out.came HRp.out) HX.out)
                      | fail)
                  go_quiet (fail)
                  go_wp2
                  refine ⟨⟨i + 1, by congr 1, by omega, ⟨?_⟩⟩, by simp [intOf]; omega⟩
                  exact (Sep.drop0 (Sep.drewN H.out _))
                ·
                  have hq4 : (!(x.f1 ++ dt).toList == x.f1.toList) = false := by simp [hq3]
                  go_wp2_with (first
                      | ((with_reducible refine gate_dst (N := 11) rfl ?_);
                          refine new_box rfl H (cs := [.string ⟨#[]⟩, .string ⟨#[]⟩, .int .i64 0]) (t := 43) ?hr ?_;
                          (case hr => first | (go_simp; done) | (go_simp; rfl));
                          intro gf wd18 n_;
                          simp only [Act.put, List.setIfInBounds_toArray, List.set_cons_zero, List.set_cons_succ];
                          clear H c_d z_d c_s z_s c_m z_m c_a z_a;
                          have H := n_;
                          clear n_;
                          have c_f := H.out.cell (g := gf) mem0;
                          have z_f := H.out.frozen (g := gf) mem0;
                          have c_d := H.out.cell (g := gd) mem1;
                          have z_d := H.out.frozen (g := gd) mem1;
                          have c_s := H.out.cell (g := gs) mem2;
                          have z_s := H.out.frozen (g := gs) mem2;
                          have c_m := H.out.cell (g := gm) mem3;
                          have z_m := H.out.frozen (g := gm) mem3;
                          have c_a := H.out.cell (g := ga) mem4;
                          have z_a := H.out.frozen (g := ga) mem4)
                      | ((with_reducible refine gate_store (t := 43) (p := 11) rfl ?_);
                          refine put_box (rs1 := [box gf [.string x.f0, .string (x.f1 ++ dt), .int .i64 x.f2] 43, box gd [.slice (some ad) l.length c, .bool dn, .int .i64 fu, .int .i64 fa] 24, box gs [.int .u8 2, .string nm, .string dt, .int .i64 n] 38, box gm [.int .u8 k2, .string nm2, .string dt2, .int .i64 n2] 38, box ga [.slice Aa_ (l2).length ca_, .bool false, .int .i64 fu2, .int .i64 (-1)] 24, row k43 43 (.slice Aa_ (l2).length ca_) l2, row k43 43 (.slice (some ad2) (l2).length cb_) l2]) rfl (t := 43) (p := 11) rfl rfl ?hr (H1 := (Sep.set0 (Sep.set0 (Sep.set0 H.out 0 (.string x.f0) rfl) 1 (.string (x.f1 ++ dt)) rfl) 2 (.int .i64 x.f2) rfl)) ?_;
                          (case hr => first | (go_simp; done) | (go_simp; rfl));
                          intro wd19 n_;
                          clear H c_f z_f c_d z_d c_s z_s c_m z_m c_a z_a;
                          have H := n_;
                          clear n_;
                          have c_f := H.out.cell (g := gf) mem0;
                          have z_f := H.out.frozen (g := gf) mem0;
                          have c_d := H.out.cell (g := gd) mem1;
                          have z_d := H.out.frozen (g := gd) mem1;
                          have c_s := H.out.cell (g := gs) mem2;
                          have z_s := H.out.frozen (g := gs) mem2;
                          have c_m := H.out.cell (g := gm) mem3;
                          have z_m := H.out.frozen (g := gm) mem3;
                          have c_a := H.out.cell (g := ga) mem4;
                          have z_a := H.out.frozen (g := ga) mem4;
                          clear h3 h4 h5;
                          obtain ⟨h0, h1, h2⟩ := at43 (H.out.came HRp.out) HX.out)
                      | fail)
                  go_quiet (fail)
                  go_wp2
                  refine ⟨⟨i + 1, by congr 1, by omega, ⟨?_⟩⟩, by simp [intOf]; omega⟩
                  exact (Sep.drop0 (Sep.drewN H.out _))
            ·
              go_wp2_with fail
              go_ret
              exact ⟨rfl, H.out.below⟩
        · obtain rfl : l2 = l := HFZ.out.2.1 hk
          go_wp2_with fail
          refine ((penstockref09_Same.calls 70 Ab_ cb_ l2 dn fu fa A c l2 dn fu fa true _ (H.out.reads mem1).2.2 (H.out.reads mem1).2.1 (H.out.came HRp.out) HCp.out (same_refl l2 dn fu fa hl2)).mono ?_)
          rintro e wd20 ⟨rfl, hb_⟩
          have n_ : Aside0 (Sep w wd20 [box gb [.slice Ab_ (l2).length cb_, .bool dn, .int .i64 fu, .int .i64 fa] 24, row k43 43 (.slice Ab_ (l2).length cb_) l2, box ga [.slice Aa_ (l2).length ca_, .bool false, .int .i64 fu2, .int .i64 (-1)] 24, row k43 43 (.slice Aa_ (l2).length ca_) l2, box gm [.int .u8 k2, .string nm2, .string dt2, .int .i64 n2] 38, box gs [.int .u8 k, .string nm, .string dt, .int .i64 n] 38, box gd [.slice A l2.length c, .bool dn, .int .i64 fu, .int .i64 fa] 24]) := ⟨H.out.step hb_⟩
          clear H c_b z_b c_a z_a c_m z_m c_s z_s c_d z_d
          have H := n_
          clear n_
          have c_b := H.out.cell (g := gb) mem0
          have z_b := H.out.frozen (g := gb) mem0
          have c_a := H.out.cell (g := ga) mem2
          have z_a := H.out.frozen (g := ga) mem2
          have c_m := H.out.cell (g := gm) mem4
          have z_m := H.out.frozen (g := gm) mem4
          have c_s := H.out.cell (g := gs) mem5
          have z_s := H.out.frozen (g := gs) mem5
          have c_d := H.out.cell (g := gd) mem6
          have z_d := H.out.frozen (g := gd) mem6
          clear hb_
          go_wp2_with fail
          go_loopw [60] (fun v60 wr => ∃ i : Nat, v60 = .int .i64 (i : Int) ∧ i ≤ l2.length ∧ Aside0 (Sep w wr [box gd [.slice A l2.length c, .bool dn, .int .i64 fu, .int .i64 fa] 24, box gs [.int .u8 k, .string nm, .string dt, .int .i64 n] 38, box gm [.int .u8 k2, .string nm2, .string dt2, .int .i64 n2] 38, box ga [.slice Aa_ (l2).length ca_, .bool false, .int .i64 fu2, .int .i64 (-1)] 24, row k43 43 (.slice Aa_ (l2).length ca_) l2, row k43 43 (.slice Ab_ (l2).length cb_) l2]))
            (fun v60 _ => l2.length - (intOf v60).toNat)
          case atStart => exact ⟨0, rfl, by omega, ⟨(Sep.front5 (Sep.front4 (Sep.front3 (Sep.front2 (Sep.front2 (Sep.drop0 H.out))))))⟩⟩
          case round =>
            clear H c_b z_b c_a z_a c_m z_m c_s z_s c_d z_d
            obtain ⟨i, rfl, hi, H⟩ := hrel
            have c_d := H.out.cell (g := gd) mem0
            have z_d := H.out.frozen (g := gd) mem0
            have c_s := H.out.cell (g := gs) mem1
            have z_s := H.out.frozen (g := gs) mem1
            have c_m := H.out.cell (g := gm) mem2
            have z_m := H.out.frozen (g := gm) mem2
            have c_a := H.out.cell (g := ga) mem3
            have z_a := H.out.frozen (g := ga) mem3
            by_cases hil : i < l2.length
            · obtain ⟨x, hx⟩ : ∃ x, l2[i]? = some x := ⟨_, List.getElem?_eq_getElem (by have := HLL.out; omega)⟩
              obtain ⟨ad, e1⟩ : ∃ ad, A = some ad := (at_T43 HRp.out (i : Int) (by omega) (by have := HLL.out; omega)).imp fun _ h => h.1
              obtain ⟨ad2, e2⟩ : ∃ ad, Ab_ = some ad := (at_T43 (H.out.reads mem5).2.2 (i : Int) (by omega) (by omega)).imp fun _ h => h.1
              subst e1 e2
              have hi0 : (0 : Int) ≤ (i : Int) := by omega
              have hi1 : (i : Int) < (l2.length : Int) := by have := HLL.out; omega
              have hi2 : (i : Int) < (l2.length : Int) := by omega
              have HX := Aside0.mk hx
              obtain ⟨h3, h4, h5⟩ := at43 (H.out.reads mem5).2.2 hx
              clear hx
              go_wp2_with (first
                  | ((with_reducible refine gate_dst (N := 11) rfl ?_);
                      refine new_box rfl H (cs := [.string ⟨#[]⟩, .string ⟨#[]⟩, .int .i64 0]) (t := 43) ?hr ?_;
                      (case hr => first | (go_simp; done) | (go_simp; rfl));
                      intro gf wd21 n_;
                      simp only [Act.put, List.setIfInBounds_toArray, List.set_cons_zero, List.set_cons_succ];
                      clear H c_d z_d c_s z_s c_m z_m c_a z_a;
                      have H := n_;
                      clear n_;
                      have c_f := H.out.cell (g := gf) mem0;
                      have z_f := H.out.frozen (g := gf) mem0;
                      have c_d := H.out.cell (g := gd) mem1;
                      have z_d := H.out.frozen (g := gd) mem1;
                      have c_s := H.out.cell (g := gs) mem2;
                      have z_s := H.out.frozen (g := gs) mem2;
                      have c_m := H.out.cell (g := gm) mem3;
                      have z_m := H.out.frozen (g := gm) mem3;
                      have c_a := H.out.cell (g := ga) mem4;
                      have z_a := H.out.frozen (g := ga) mem4)
                  | ((with_reducible refine gate_store (t := 43) (p := 11) rfl ?_);
                      refine put_box (rs1 := [box gf [.string x.f0, .string x.f1, .int .i64 x.f2] 43, box gd [.slice (some ad) l2.length c, .bool dn, .int .i64 fu, .int .i64 fa] 24, box gs [.int .u8 k, .string nm, .string dt, .int .i64 n] 38, box gm [.int .u8 k2, .string nm2, .string dt2, .int .i64 n2] 38, box ga [.slice Aa_ (l2).length ca_, .bool false, .int .i64 fu2, .int .i64 (-1)] 24, row k43 43 (.slice Aa_ (l2).length ca_) l2, row k43 43 (.slice (some ad2) (l2).length cb_) l2]) rfl (t := 43) (p := 11) rfl rfl ?hr (H1 := (Sep.set0 (Sep.set0 (Sep.set0 H.out 0 (.string x.f0) rfl) 1 (.string x.f1) rfl) 2 (.int .i64 x.f2) rfl)) ?_;
                      (case hr => first | (go_simp; done) | (go_simp; rfl));
                      intro wd22 n_;
                      clear H c_f z_f c_d z_d c_s z_s c_m z_m c_a z_a;
                      have H := n_;
                      clear n_;
                      have c_f := H.out.cell (g := gf) mem0;
                      have z_f := H.out.frozen (g := gf) mem0;
                      have c_d := H.out.cell (g := gd) mem1;
                      have z_d := H.out.frozen (g := gd) mem1;
                      have c_s := H.out.cell (g := gs) mem2;
                      have z_s := H.out.frozen (g := gs) mem2;
                      have c_m := H.out.cell (g := gm) mem3;
                      have z_m := H.out.frozen (g := gm) mem3;
                      have c_a := H.out.cell (g := ga) mem4;
                      have z_a := H.out.frozen (g := ga) mem4;
                      clear h3 h4 h5;
                      obtain ⟨h0, h1, h2⟩ := at43 (H.out.came HRp.out) HX.out)
                  | fail)
              go_quiet (fail)
              go_wp2
              refine ⟨⟨i + 1, by congr 1, by omega, ⟨?_⟩⟩, by simp [intOf]; omega⟩
              exact (Sep.drop0 (Sep.drewN H.out _))
            ·
              go_wp2_with fail
              go_ret
              exact ⟨rfl, H.out.below⟩
    ·
      go_wp2_with (first
          | ((with_reducible refine gate_dst (N := 7) rfl ?_);
              refine new_box rfl H (cs := [.slice none 0 0, .bool false, .int .i64 0, .int .i64 0]) (t := 24) ?hr ?_;
              (case hr => first | (go_simp; done) | (go_simp; rfl));
              intro ga wd23 n_;
              simp only [Act.put, List.setIfInBounds_toArray, List.set_cons_zero, List.set_cons_succ];
              clear H c_m z_m c_s z_s c_d z_d;
              have H := n_;
              clear n_;
              have c_a := H.out.cell (g := ga) mem0;
              have z_a := H.out.frozen (g := ga) mem0;
              have c_m := H.out.cell (g := gm) mem2;
              have z_m := H.out.frozen (g := gm) mem2;
              have c_s := H.out.cell (g := gs) mem3;
              have z_s := H.out.frozen (g := gs) mem3;
              have c_d := H.out.cell (g := gd) mem4;
              have z_d := H.out.frozen (g := gd) mem4)
          | ((with_reducible refine gate_store (t := 24) (p := 7) rfl ?_);
              refine put_box (rs1 := [box ga [.slice Aa_ (l2).length ca_, .bool true, .int .i64 fu2, .int .i64 fa2] 24, row k43 43 (.slice Aa_ (l2).length ca_) l2, box gm [.int .u8 k2, .string nm2, .string dt2, .int .i64 n2] 38, box gs [.int .u8 k, .string nm, .string dt, .int .i64 n] 38, box gd [.slice A l.length c, .bool dn, .int .i64 fu, .int .i64 fa] 24]) rfl (t := 24) (p := 7) rfl rfl ?hr (H1 := (Sep.set0 (Sep.set0 (Sep.set0 (Sep.set0 H.out 0 (.slice Aa_ (l2).length ca_) rfl) 1 (.bool true) rfl) 2 (.int .i64 fu2) rfl) 3 (.int .i64 fa2) rfl)) ?_;
              (case hr => first | (go_simp; done) | (go_simp; rfl));
              intro wd24 n_;
              clear H c_a z_a c_m z_m c_s z_s c_d z_d;
              have H := n_;
              clear n_;
              have c_a := H.out.cell (g := ga) mem0;
              have z_a := H.out.frozen (g := ga) mem0;
              have c_m := H.out.cell (g := gm) mem2;
              have z_m := H.out.frozen (g := gm) mem2;
              have c_s := H.out.cell (g := gs) mem3;
              have z_s := H.out.frozen (g := gs) mem3;
              have c_d := H.out.cell (g := gd) mem4;
              have z_d := H.out.frozen (g := gd) mem4)
          | fail)
      refine ((penstockref09_Copy.calls Aa_ ca_ l2 true fu2 fa2 l2 true fu2 fa2 _ (H.out.reads mem1).2.2 (H.out.reads mem1).2.1 (copy_eq hl2 _ _ _)).mono ?_)
      rintro e wd25 ⟨v_, rfl, ho_, hb_⟩
      obtain ⟨Ab_, cb_, eo_⟩ := Kd.R_slice ho_
      subst eo_
      have n_ : Aside0 (Sep w wd25 [row k43 43 (.slice Ab_ (l2).length cb_) l2, box ga [.slice Aa_ (l2).length ca_, .bool true, .int .i64 fu2, .int .i64 fa2] 24, row k43 43 (.slice Aa_ (l2).length ca_) l2, box gm [.int .u8 k2, .string nm2, .string dt2, .int .i64 n2] 38, box gs [.int .u8 k, .string nm, .string dt, .int .i64 n] 38, box gd [.slice A l.length c, .bool dn, .int .i64 fu, .int .i64 fa] 24]) := ⟨Sep.push_row H.out hb_ ho_ k43_flat⟩
      clear H c_a z_a c_m z_m c_s z_s c_d z_d
      have H := n_
      clear n_
      have c_a := H.out.cell (g := ga) mem1
      have z_a := H.out.frozen (g := ga) mem1
      have c_m := H.out.cell (g := gm) mem3
      have z_m := H.out.frozen (g := gm) mem3
      have c_s := H.out.cell (g := gs) mem4
      have z_s := H.out.frozen (g := gs) mem4
      have c_d := H.out.cell (g := gd) mem5
      have z_d := H.out.frozen (g := gd) mem5
      clear ho_ hb_
      go_wp2_with (first
          | ((with_reducible refine gate_dst (N := 9) rfl ?_);
              refine new_box rfl H (cs := [.slice none 0 0, .bool false, .int .i64 0, .int .i64 0]) (t := 24) ?hr ?_;
              (case hr => first | (go_simp; done) | (go_simp; rfl));
              intro gb wd26 n_;
              simp only [Act.put, List.setIfInBounds_toArray, List.set_cons_zero, List.set_cons_succ];
              clear H c_a z_a c_m z_m c_s z_s c_d z_d;
              have H := n_;
              clear n_;
              have c_b := H.out.cell (g := gb) mem0;
              have z_b := H.out.frozen (g := gb) mem0;
              have c_a := H.out.cell (g := ga) mem2;
              have z_a := H.out.frozen (g := ga) mem2;
              have c_m := H.out.cell (g := gm) mem4;
              have z_m := H.out.frozen (g := gm) mem4;
              have c_s := H.out.cell (g := gs) mem5;
              have z_s := H.out.frozen (g := gs) mem5;
              have c_d := H.out.cell (g := gd) mem6;
              have z_d := H.out.frozen (g := gd) mem6)
          | ((with_reducible refine gate_store (t := 24) (p := 9) rfl ?_);
              refine put_box (rs1 := [box gb [.slice Ab_ (l2).length cb_, .bool true, .int .i64 fu2, .int .i64 fa2] 24, row k43 43 (.slice Ab_ (l2).length cb_) l2, box ga [.slice Aa_ (l2).length ca_, .bool true, .int .i64 fu2, .int .i64 fa2] 24, row k43 43 (.slice Aa_ (l2).length ca_) l2, box gm [.int .u8 k2, .string nm2, .string dt2, .int .i64 n2] 38, box gs [.int .u8 k, .string nm, .string dt, .int .i64 n] 38, box gd [.slice A l.length c, .bool dn, .int .i64 fu, .int .i64 fa] 24]) rfl (t := 24) (p := 9) rfl rfl ?hr (H1 := (Sep.set0 (Sep.set0 (Sep.set0 (Sep.set0 H.out 0 (.slice Ab_ (l2).length cb_) rfl) 1 (.bool true) rfl) 2 (.int .i64 fu2) rfl) 3 (.int .i64 fa2) rfl)) ?_;
              (case hr => first | (go_simp; done) | (go_simp; rfl));
              intro wd27 n_;
              clear H c_b z_b c_a z_a c_m z_m c_s z_s c_d z_d;
              have H := n_;
              clear n_;
              have c_b := H.out.cell (g := gb) mem0;
              have z_b := H.out.frozen (g := gb) mem0;
              have c_a := H.out.cell (g := ga) mem2;
              have z_a := H.out.frozen (g := ga) mem2;
              have c_m := H.out.cell (g := gm) mem4;
              have z_m := H.out.frozen (g := gm) mem4;
              have c_s := H.out.cell (g := gs) mem5;
              have z_s := H.out.frozen (g := gs) mem5;
              have c_d := H.out.cell (g := gd) mem6;
              have z_d := H.out.frozen (g := gd) mem6)
          | fail)
      go_upto_region 7 with fail
      go_cut [] (fun wx => Aside0 (Sep w wx [box gb [.slice Ab_ (l2).length cb_, .bool dn, .int .i64 fu, .int .i64 fa] 24, row k43 43 (.slice Ab_ (l2).length cb_) l2, box ga [.slice Aa_ (l2).length ca_, .bool true, .int .i64 fu2, .int .i64 fa2] 24, row k43 43 (.slice Aa_ (l2).length ca_) l2, box gm [.int .u8 k2, .string nm2, .string dt2, .int .i64 n2] 38, box gs [.int .u8 k, .string nm, .string dt, .int .i64 n] 38, box gd [.slice A l.length c, .bool dn, .int .i64 fu, .int .i64 fa] 24]))
      case first =>
        go_region
        all_goals (go_wp2_with fail; go_meet; exact ⟨(Sep.drew (Sep.set0 (Sep.set0 (Sep.set0 H.out 2 (.int .i64 fu) rfl) 3 (.int .i64 fa) rfl) 1 (.bool dn) rfl))⟩)
      case rest =>
        have n_ := hcut
        clear hcut
        clear H c_b z_b c_a z_a c_m z_m c_s z_s c_d z_d
        have H := n_
        clear n_
        have c_b := H.out.cell (g := gb) mem0
        have z_b := H.out.frozen (g := gb) mem0
        have c_a := H.out.cell (g := ga) mem2
        have z_a := H.out.frozen (g := ga) mem2
        have c_m := H.out.cell (g := gm) mem4
        have z_m := H.out.frozen (g := gm) mem4
        have c_s := H.out.cell (g := gs) mem5
        have z_s := H.out.frozen (g := gs) mem5
        have c_d := H.out.cell (g := gd) mem6
        have z_d := H.out.frozen (g := gd) mem6
        have hlq : ((l2.length : Int) == (l.length : Int)) = true := by rw [HLL.out]; simp
        by_cases hk : k = 2
        · subst hk
          go_wp2_with fail
          try any_goals (exfalso; have := HLL.out; omega)
          go_loopw [60] (fun v60 wr => ∃ i : Nat, v60 = .int .i64 (i : Int) ∧ i ≤ l2.length ∧ Aside0 (Sep w wr [box gd [.slice A l.length c, .bool dn, .int .i64 fu, .int .i64 fa] 24, box gs [.int .u8 2, .string nm, .string dt, .int .i64 n] 38, box gm [.int .u8 k2, .string nm2, .string dt2, .int .i64 n2] 38, box ga [.slice Aa_ (l2).length ca_, .bool true, .int .i64 fu2, .int .i64 fa2] 24, row k43 43 (.slice Aa_ (l2).length ca_) l2, row k43 43 (.slice Ab_ (l2).length cb_) l2]))
            (fun v60 _ => l2.length - (intOf v60).toNat)
          case atStart => exact ⟨0, rfl, by omega, ⟨(Sep.front5 (Sep.front4 (Sep.front3 (Sep.front2 (Sep.front2 (Sep.drop0 H.out))))))⟩⟩
          case round =>
            clear H c_b z_b c_a z_a c_m z_m c_s z_s c_d z_d
            obtain ⟨i, rfl, hi, H⟩ := hrel
            have c_d := H.out.cell (g := gd) mem0
            have z_d := H.out.frozen (g := gd) mem0
            have c_s := H.out.cell (g := gs) mem1
            have z_s := H.out.frozen (g := gs) mem1
            have c_m := H.out.cell (g := gm) mem2
            have z_m := H.out.frozen (g := gm) mem2
            have c_a := H.out.cell (g := ga) mem3
            have z_a := H.out.frozen (g := ga) mem3
            by_cases hil : i < l2.length
            · obtain ⟨x, hx⟩ : ∃ x, l[i]? = some x := ⟨_, List.getElem?_eq_getElem (by have := HLL.out; omega)⟩
              obtain ⟨ad, e1⟩ : ∃ ad, A = some ad := (at_T43 HRp.out (i : Int) (by omega) (by have := HLL.out; omega)).imp fun _ h => h.1
              obtain ⟨ad2, e2⟩ : ∃ ad, Ab_ = some ad := (at_T43 (H.out.reads mem5).2.2 (i : Int) (by omega) (by omega)).imp fun _ h => h.1
              subst e1 e2
              have hi0 : (0 : Int) ≤ (i : Int) := by omega
              have hi1 : (i : Int) < (l.length : Int) := by have := HLL.out; omega
              have hi2 : (i : Int) < (l2.length : Int) := by omega
              have HX := Aside0.mk hx
              rcases HFZ.out.2.2 i x hx with hy | ⟨hn, hs, hy⟩
              ·
                obtain ⟨h3, h4, h5⟩ := at43 (H.out.reads mem5).2.2 hy
                clear hx hy
                go_wp2_with (first
                    | ((with_reducible refine gate_dst (N := 11) rfl ?_);
                        refine new_box rfl H (cs := [.string ⟨#[]⟩, .string ⟨#[]⟩, .int .i64 0]) (t := 43) ?hr ?_;
                        (case hr => first | (go_simp; done) | (go_simp; rfl));
                        intro gf wd29 n_;
                        simp only [Act.put, List.setIfInBounds_toArray, List.set_cons_zero, List.set_cons_succ];
                        clear H c_d z_d c_s z_s c_m z_m c_a z_a;
                        have H := n_;
                        clear n_;
                        have c_f := H.out.cell (g := gf) mem0;
                        have z_f := H.out.frozen (g := gf) mem0;
                        have c_d := H.out.cell (g := gd) mem1;
                        have z_d := H.out.frozen (g := gd) mem1;
                        have c_s := H.out.cell (g := gs) mem2;
                        have z_s := H.out.frozen (g := gs) mem2;
                        have c_m := H.out.cell (g := gm) mem3;
                        have z_m := H.out.frozen (g := gm) mem3;
                        have c_a := H.out.cell (g := ga) mem4;
                        have z_a := H.out.frozen (g := ga) mem4)
                    | ((with_reducible refine gate_store (t := 43) (p := 11) rfl ?_);
                        refine put_box (rs1 := [box gf [.string x.f0, .string x.f1, .int .i64 x.f2] 43, box gd [.slice (some ad) l.length c, .bool dn, .int .i64 fu, .int .i64 fa] 24, box gs [.int .u8 2, .string nm, .string dt, .int .i64 n] 38, box gm [.int .u8 k2, .string nm2, .string dt2, .int .i64 n2] 38, box ga [.slice Aa_ (l2).length ca_, .bool true, .int .i64 fu2, .int .i64 fa2] 24, row k43 43 (.slice Aa_ (l2).length ca_) l2, row k43 43 (.slice (some ad2) (l2).length cb_) l2]) rfl (t := 43) (p := 11) rfl rfl ?hr (H1 := (Sep.set0 (Sep.set0 (Sep.set0 H.out 0 (.string x.f0) rfl) 1 (.string x.f1) rfl) 2 (.int .i64 x.f2) rfl)) ?_;
                        (case hr => first | (go_simp; done) | (go_simp; rfl));
                        intro wd30 n_;
                        clear H c_f z_f c_d z_d c_s z_s c_m z_m c_a z_a;
                        have H := n_;
                        clear n_;
                        have c_f := H.out.cell (g := gf) mem0;
                        have z_f := H.out.frozen (g := gf) mem0;
                        have c_d := H.out.cell (g := gd) mem1;
                        have z_d := H.out.frozen (g := gd) mem1;
                        have c_s := H.out.cell (g := gs) mem2;
                        have z_s := H.out.frozen (g := gs) mem2;
                        have c_m := H.out.cell (g := gm) mem3;
                        have z_m := H.out.frozen (g := gm) mem3;
                        have c_a := H.out.cell (g := ga) mem4;
                        have z_a := H.out.frozen (g := ga) mem4;
                        clear h3 h4 h5;
                        obtain ⟨h0, h1, h2⟩ := at43 (H.out.came HRp.out) HX.out)
                    | fail)
                go_quiet (fail)
                go_wp2
                refine ⟨⟨i + 1, by congr 1, by omega, ⟨?_⟩⟩, by simp [intOf]; omega⟩
                exact (Sep.drop0 (Sep.drewN H.out _))
              ·
                obtain ⟨h3, h4, h5⟩ := at43 (H.out.reads mem5).2.2 hy
                clear hx hy
                have hq1 : (!x.f0.toList == nm.toList) = false := by simp [hn]
                have hq2 : (!(x.f1 ++ dt).toList == (x.f1 ++ dt).toList) = false := by simp
                cases hq3 : ((x.f1 ++ dt).toList == x.f1.toList)
                ·
                  have hq4 : (!(x.f1 ++ dt).toList == x.f1.toList) = true := by simp [hq3]
                  go_wp2_with (first
                      | ((with_reducible refine gate_dst (N := 11) rfl ?_);
                          refine new_box rfl H (cs := [.string ⟨#[]⟩, .string ⟨#[]⟩, .int .i64 0]) (t := 43) ?hr ?_;
                          (case hr => first | (go_simp; done) | (go_simp; rfl));
                          intro gf wd31 n_;
                          simp only [Act.put, List.setIfInBounds_toArray, List.set_cons_zero, List.set_cons_succ];
                          clear H c_d z_d c_s z_s c_m z_m c_a z_a;
                          have H := n_;
                          clear n_;
                          have c_f := H.out.cell (g := gf) mem0;
                          have z_f := H.out.frozen (g := gf) mem0;
                          have c_d := H.out.cell (g := gd) mem1;
                          have z_d := H.out.frozen (g := gd) mem1;
                          have c_s := H.out.cell (g := gs) mem2;
                          have z_s := H.out.frozen (g := gs) mem2;
                          have c_m := H.out.cell (g := gm) mem3;
                          have z_m := H.out.frozen (g := gm) mem3;
                          have c_a := H.out.cell (g := ga) mem4;
                          have z_a := H.out.frozen (g := ga) mem4)
                      | ((with_reducible refine gate_store (t := 43) (p := 11) rfl ?_);
                          refine put_box (rs1 := [box gf [.string x.f0, .string (x.f1 ++ dt), .int .i64 x.f2] 43, box gd [.slice (some ad) l.length c, .bool dn, .int .i64 fu, .int .i64 fa] 24, box gs [.int .u8 2, .string nm, .string dt, .int .i64 n] 38, box gm [.int .u8 k2, .string nm2, .string dt2, .int .i64 n2] 38, box ga [.slice Aa_ (l2).length ca_, .bool true, .int .i64 fu2, .int .i64 fa2] 24, row k43 43 (.slice Aa_ (l2).length ca_) l2, row k43 43 (.slice (some ad2) (l2).length cb_) l2]) rfl (t := 43) (p := 11) rfl rfl ?hr (H1 := (Sep.set0 (Sep.set0 (Sep.set0 H.out 0 (.string x.f0) rfl) 1 (.string (x.f1 ++ dt)) rfl) 2 (.int .i64 x.f2) rfl)) ?_;
                          (case hr => first | (go_simp; done) | (go_simp; rfl));
                          intro wd32 n_;
                          clear H c_f z_f c_d z_d c_s z_s c_m z_m c_a z_a;
                          have H := n_;
                          clear n_;
                          have c_f := H.out.cell (g := gf) mem0;
                          have z_f := H.out.frozen (g := gf) mem0;
                          have c_d := H.out.cell (g := gd) mem1;
                          have z_d := H.out.frozen (g := gd) mem1;
                          have c_s := H.out.cell (g := gs) mem2;
                          have z_s := H.out.frozen (g := gs) mem2;
                          have c_m := H.out.cell (g := gm) mem3;
                          have z_m := H.out.frozen (g := gm) mem3;
                          have c_a := H.out.cell (g := ga) mem4;
                          have z_a := H.out.frozen (g := ga) mem4;
                          clear h3 h4 h5;
                          obtain ⟨h0, h1, h2⟩ := at43 (H.out.came HRp.out) HX.out)
                      | fail)
                  go_quiet (fail)
                  go_wp2
                  refine ⟨⟨i + 1, by congr 1, by omega, ⟨?_⟩⟩, by simp [intOf]; omega⟩
                  exact (Sep.drop0 (Sep.drewN H.out _))
                ·
                  have hq4 : (!(x.f1 ++ dt).toList == x.f1.toList) = false := by simp [hq3]
                  go_wp2_with (first
                      | ((with_reducible refine gate_dst (N := 11) rfl ?_);
                          refine new_box rfl H (cs := [.string ⟨#[]⟩, .string ⟨#[]⟩, .int .i64 0]) (t := 43) ?hr ?_;
                          (case hr => first | (go_simp; done) | (go_simp; rfl));
                          intro gf wd33 n_;
                          simp only [Act.put, List.setIfInBounds_toArray, List.set_cons_zero, List.set_cons_succ];
                          clear H c_d z_d c_s z_s c_m z_m c_a z_a;
                          have H := n_;
                          clear n_;
                          have c_f := H.out.cell (g := gf) mem0;
                          have z_f := H.out.frozen (g := gf) mem0;
                          have c_d := H.out.cell (g := gd) mem1;
                          have z_d := H.out.frozen (g := gd) mem1;
                          have c_s := H.out.cell (g := gs) mem2;
                          have z_s := H.out.frozen (g := gs) mem2;
                          have c_m := H.out.cell (g := gm) mem3;
                          have z_m := H.out.frozen (g := gm) mem3;
                          have c_a := H.out.cell (g := ga) mem4;
                          have z_a := H.out.frozen (g := ga) mem4)
                      | ((with_reducible refine gate_store (t := 43) (p := 11) rfl ?_);
                          refine put_box (rs1 := [box gf [.string x.f0, .string (x.f1 ++ dt), .int .i64 x.f2] 43, box gd [.slice (some ad) l.length c, .bool dn, .int .i64 fu, .int .i64 fa] 24, box gs [.int .u8 2, .string nm, .string dt, .int .i64 n] 38, box gm [.int .u8 k2, .string nm2, .string dt2, .int .i64 n2] 38, box ga [.slice Aa_ (l2).length ca_, .bool true, .int .i64 fu2, .int .i64 fa2] 24, row k43 43 (.slice Aa_ (l2).length ca_) l2, row k43 43 (.slice (some ad2) (l2).length cb_) l2]) rfl (t := 43) (p := 11) rfl rfl ?hr (H1 := (Sep.set0 (Sep.set0 (Sep.set0 H.out 0 (.string x.f0) rfl) 1 (.string (x.f1 ++ dt)) rfl) 2 (.int .i64 x.f2) rfl)) ?_;
                          (case hr => first | (go_simp; done) | (go_simp; rfl));
                          intro wd34 n_;
                          clear H c_f z_f c_d z_d c_s z_s c_m z_m c_a z_a;
                          have H := n_;
                          clear n_;
                          have c_f := H.out.cell (g := gf) mem0;
                          have z_f := H.out.frozen (g := gf) mem0;
                          have c_d := H.out.cell (g := gd) mem1;
                          have z_d := H.out.frozen (g := gd) mem1;
                          have c_s := H.out.cell (g := gs) mem2;
                          have z_s := H.out.frozen (g := gs) mem2;
                          have c_m := H.out.cell (g := gm) mem3;
                          have z_m := H.out.frozen (g := gm) mem3;
                          have c_a := H.out.cell (g := ga) mem4;
                          have z_a := H.out.frozen (g := ga) mem4;
                          clear h3 h4 h5;
                          obtain ⟨h0, h1, h2⟩ := at43 (H.out.came HRp.out) HX.out)
                      | fail)
                  go_quiet (fail)
                  go_wp2
                  refine ⟨⟨i + 1, by congr 1, by omega, ⟨?_⟩⟩, by simp [intOf]; omega⟩
                  exact (Sep.drop0 (Sep.drewN H.out _))
            ·
              go_wp2_with fail
              obtain ⟨e3, hdo3, he3⟩ := do_down HOK2.out fu2 fa2 k2 nm2 dt2 n2
              refine ((disk_Do.calls Aa_ ca_ l2 true fu2 fa2 k2 nm2 dt2 n2 l2 true fu2 fa2 e3 _ (H.out.reads mem4).2.2 (H.out.reads mem4).2.1 hdo3).mono ?_)
              rintro e wd35 ⟨v_, rfl, ho_, hb_⟩
              obtain ⟨Ac_, cc_, eo_⟩ := Kd.R_slice ho_
              subst eo_
              have n_ : Aside0 (Sep w wd35 [row k43 43 (.slice Ac_ (l2).length cc_) l2, box gd [.slice A l.length c, .bool dn, .int .i64 fu, .int .i64 fa] 24, box gs [.int .u8 2, .string nm, .string dt, .int .i64 n] 38, box gm [.int .u8 k2, .string nm2, .string dt2, .int .i64 n2] 38, box ga [.slice Aa_ (l2).length ca_, .bool true, .int .i64 fu2, .int .i64 fa2] 24, row k43 43 (.slice Aa_ (l2).length ca_) l2, row k43 43 (.slice Ab_ (l2).length cb_) l2]) := ⟨Sep.push_row H.out hb_ ho_ k43_flat⟩
              clear H c_d z_d c_s z_s c_m z_m c_a z_a
              have H := n_
              clear n_
              have c_d := H.out.cell (g := gd) mem1
              have z_d := H.out.frozen (g := gd) mem1
              have c_s := H.out.cell (g := gs) mem2
              have z_s := H.out.frozen (g := gs) mem2
              have c_m := H.out.cell (g := gm) mem3
              have z_m := H.out.frozen (g := gm) mem3
              have c_a := H.out.cell (g := ga) mem4
              have z_a := H.out.frozen (g := ga) mem4
              clear ho_ hb_
              go_wp2_with (first
                  | ((with_reducible refine gate_dst (N := 12) rfl ?_);
                      refine new_box rfl H (cs := [.slice none 0 0, .bool false, .int .i64 0, .int .i64 0]) (t := 24) ?hr ?_;
                      (case hr => first | (go_simp; done) | (go_simp; rfl));
                      intro gc wd36 n_;
                      simp only [Act.put, List.setIfInBounds_toArray, List.set_cons_zero, List.set_cons_succ];
                      clear H c_d z_d c_s z_s c_m z_m c_a z_a;
                      have H := n_;
                      clear n_;
                      have c_c := H.out.cell (g := gc) mem0;
                      have z_c := H.out.frozen (g := gc) mem0;
                      have c_d := H.out.cell (g := gd) mem2;
                      have z_d := H.out.frozen (g := gd) mem2;
                      have c_s := H.out.cell (g := gs) mem3;
                      have z_s := H.out.frozen (g := gs) mem3;
                      have c_m := H.out.cell (g := gm) mem4;
                      have z_m := H.out.frozen (g := gm) mem4;
                      have c_a := H.out.cell (g := ga) mem5;
                      have z_a := H.out.frozen (g := ga) mem5)
                  | ((with_reducible refine gate_store (t := 24) (p := 12) rfl ?_);
                      refine put_box (rs1 := [box gc [.slice Ac_ (l2).length cc_, .bool true, .int .i64 fu2, .int .i64 fa2] 24, row k43 43 (.slice Ac_ (l2).length cc_) l2, box gd [.slice A l.length c, .bool dn, .int .i64 fu, .int .i64 fa] 24, box gs [.int .u8 2, .string nm, .string dt, .int .i64 n] 38, box gm [.int .u8 k2, .string nm2, .string dt2, .int .i64 n2] 38, box ga [.slice Aa_ (l2).length ca_, .bool true, .int .i64 fu2, .int .i64 fa2] 24, row k43 43 (.slice Aa_ (l2).length ca_) l2, row k43 43 (.slice Ab_ (l2).length cb_) l2]) rfl (t := 24) (p := 12) rfl rfl ?hr (H1 := (Sep.set0 (Sep.set0 (Sep.set0 (Sep.set0 H.out 0 (.slice Ac_ (l2).length cc_) rfl) 1 (.bool true) rfl) 2 (.int .i64 fu2) rfl) 3 (.int .i64 fa2) rfl)) ?_;
                      (case hr => first | (go_simp; done) | (go_simp; rfl));
                      intro wd37 n_;
                      clear H c_c z_c c_d z_d c_s z_s c_m z_m c_a z_a;
                      have H := n_;
                      clear n_;
                      have c_c := H.out.cell (g := gc) mem0;
                      have z_c := H.out.frozen (g := gc) mem0;
                      have c_d := H.out.cell (g := gd) mem2;
                      have z_d := H.out.frozen (g := gd) mem2;
                      have c_s := H.out.cell (g := gs) mem3;
                      have z_s := H.out.frozen (g := gs) mem3;
                      have c_m := H.out.cell (g := gm) mem4;
                      have z_m := H.out.frozen (g := gm) mem4;
                      have c_a := H.out.cell (g := ga) mem5;
                      have z_a := H.out.frozen (g := ga) mem5)
                  | fail)
              refine ((penstockref09_Same.calls 70 Aa_ ca_ l2 true fu2 fa2 Ac_ cc_ l2 true fu2 fa2 true _ (H.out.reads mem6).2.2 (H.out.reads mem6).2.1 (H.out.reads mem1).2.2 (H.out.reads mem1).2.1 (same_refl l2 true fu2 fa2 hl2)).mono ?_)
              rintro e wd38 ⟨rfl, hb_⟩
              have n_ : Aside0 (Sep w wd38 [box gc [.slice Ac_ (l2).length cc_, .bool true, .int .i64 fu2, .int .i64 fa2] 24, row k43 43 (.slice Ac_ (l2).length cc_) l2, box gd [.slice A l.length c, .bool dn, .int .i64 fu, .int .i64 fa] 24, box gs [.int .u8 2, .string nm, .string dt, .int .i64 n] 38, box gm [.int .u8 k2, .string nm2, .string dt2, .int .i64 n2] 38, box ga [.slice Aa_ (l2).length ca_, .bool true, .int .i64 fu2, .int .i64 fa2] 24, row k43 43 (.slice Aa_ (l2).length ca_) l2, row k43 43 (.slice Ab_ (l2).length cb_) l2]) := ⟨H.out.step hb_⟩
              clear H c_c z_c c_d z_d c_s z_s c_m z_m c_a z_a
              have H := n_
              clear n_
              have c_c := H.out.cell (g := gc) mem0
              have z_c := H.out.frozen (g := gc) mem0
              have c_d := H.out.cell (g := gd) mem2
              have z_d := H.out.frozen (g := gd) mem2
              have c_s := H.out.cell (g := gs) mem3
              have z_s := H.out.frozen (g := gs) mem3
              have c_m := H.out.cell (g := gm) mem4
              have z_m := H.out.frozen (g := gm) mem4
              have c_a := H.out.cell (g := ga) mem5
              have z_a := H.out.frozen (g := ga) mem5
              clear hb_
              rcases he3 with rfl | ⟨he3, rfl⟩
              · go_wp2
                go_ret
                exact ⟨rfl, H.out.below⟩
              · go_wp2
                go_ret
                exact ⟨rfl, H.out.below⟩
        · obtain rfl : l2 = l := HFZ.out.2.1 hk
          go_wp2_with fail
          refine ((penstockref09_Same.calls 70 Ab_ cb_ l2 dn fu fa A c l2 dn fu fa true _ (H.out.reads mem1).2.2 (H.out.reads mem1).2.1 (H.out.came HRp.out) HCp.out (same_refl l2 dn fu fa hl2)).mono ?_)
          rintro e wd39 ⟨rfl, hb_⟩
          have n_ : Aside0 (Sep w wd39 [box gb [.slice Ab_ (l2).length cb_, .bool dn, .int .i64 fu, .int .i64 fa] 24, row k43 43 (.slice Ab_ (l2).length cb_) l2, box ga [.slice Aa_ (l2).length ca_, .bool true, .int .i64 fu2, .int .i64 fa2] 24, row k43 43 (.slice Aa_ (l2).length ca_) l2, box gm [.int .u8 k2, .string nm2, .string dt2, .int .i64 n2] 38, box gs [.int .u8 k, .string nm, .string dt, .int .i64 n] 38, box gd [.slice A l2.length c, .bool dn, .int .i64 fu, .int .i64 fa] 24]) := ⟨H.out.step hb_⟩
          clear H c_b z_b c_a z_a c_m z_m c_s z_s c_d z_d
          have H := n_
          clear n_
          have c_b := H.out.cell (g := gb) mem0
          have z_b := H.out.frozen (g := gb) mem0
          have c_a := H.out.cell (g := ga) mem2
          have z_a := H.out.frozen (g := ga) mem2
          have c_m := H.out.cell (g := gm) mem4
          have z_m := H.out.frozen (g := gm) mem4
          have c_s := H.out.cell (g := gs) mem5
          have z_s := H.out.frozen (g := gs) mem5
          have c_d := H.out.cell (g := gd) mem6
          have z_d := H.out.frozen (g := gd) mem6
          clear hb_
          go_wp2_with fail
          go_loopw [60] (fun v60 wr => ∃ i : Nat, v60 = .int .i64 (i : Int) ∧ i ≤ l2.length ∧ Aside0 (Sep w wr [box gd [.slice A l2.length c, .bool dn, .int .i64 fu, .int .i64 fa] 24, box gs [.int .u8 k, .string nm, .string dt, .int .i64 n] 38, box gm [.int .u8 k2, .string nm2, .string dt2, .int .i64 n2] 38, box ga [.slice Aa_ (l2).length ca_, .bool true, .int .i64 fu2, .int .i64 fa2] 24, row k43 43 (.slice Aa_ (l2).length ca_) l2, row k43 43 (.slice Ab_ (l2).length cb_) l2]))
            (fun v60 _ => l2.length - (intOf v60).toNat)
          case atStart => exact ⟨0, rfl, by omega, ⟨(Sep.front5 (Sep.front4 (Sep.front3 (Sep.front2 (Sep.front2 (Sep.drop0 H.out))))))⟩⟩
          case round =>
            clear H c_b z_b c_a z_a c_m z_m c_s z_s c_d z_d
            obtain ⟨i, rfl, hi, H⟩ := hrel
            have c_d := H.out.cell (g := gd) mem0
            have z_d := H.out.frozen (g := gd) mem0
            have c_s := H.out.cell (g := gs) mem1
            have z_s := H.out.frozen (g := gs) mem1
            have c_m := H.out.cell (g := gm) mem2
            have z_m := H.out.frozen (g := gm) mem2
            have c_a := H.out.cell (g := ga) mem3
            have z_a := H.out.frozen (g := ga) mem3
            by_cases hil : i < l2.length
            · obtain ⟨x, hx⟩ : ∃ x, l2[i]? = some x := ⟨_, List.getElem?_eq_getElem (by have := HLL.out; omega)⟩
              obtain ⟨ad, e1⟩ : ∃ ad, A = some ad := (at_T43 HRp.out (i : Int) (by omega) (by have := HLL.out; omega)).imp fun _ h => h.1
              obtain ⟨ad2, e2⟩ : ∃ ad, Ab_ = some ad := (at_T43 (H.out.reads mem5).2.2 (i : Int) (by omega) (by omega)).imp fun _ h => h.1
              subst e1 e2
              have hi0 : (0 : Int) ≤ (i : Int) := by omega
              have hi1 : (i : Int) < (l2.length : Int) := by have := HLL.out; omega
              have hi2 : (i : Int) < (l2.length : Int) := by omega
              have HX := Aside0.mk hx
              obtain ⟨h3, h4, h5⟩ := at43 (H.out.reads mem5).2.2 hx
              clear hx
              go_wp2_with (first
                  | ((with_reducible refine gate_dst (N := 11) rfl ?_);
                      refine new_box rfl H (cs := [.string ⟨#[]⟩, .string ⟨#[]⟩, .int .i64 0]) (t := 43) ?hr ?_;
                      (case hr => first | (go_simp; done) | (go_simp; rfl));
                      intro gf wd40 n_;
                      simp only [Act.put, List.setIfInBounds_toArray, List.set_cons_zero, List.set_cons_succ];
                      clear H c_d z_d c_s z_s c_m z_m c_a z_a;
                      have H := n_;
                      clear n_;
                      have c_f := H.out.cell (g := gf) mem0;
                      have z_f := H.out.frozen (g := gf) mem0;
                      have c_d := H.out.cell (g := gd) mem1;
                      have z_d := H.out.frozen (g := gd) mem1;
                      have c_s := H.out.cell (g := gs) mem2;
                      have z_s := H.out.frozen (g := gs) mem2;
                      have c_m := H.out.cell (g := gm) mem3;
                      have z_m := H.out.frozen (g := gm) mem3;
                      have c_a := H.out.cell (g := ga) mem4;
                      have z_a := H.out.frozen (g := ga) mem4)
                  | ((with_reducible refine gate_store (t := 43) (p := 11) rfl ?_);
                      refine put_box (rs1 := [box gf [.string x.f0, .string x.f1, .int .i64 x.f2] 43, box gd [.slice (some ad) l2.length c, .bool dn, .int .i64 fu, .int .i64 fa] 24, box gs [.int .u8 k, .string nm, .string dt, .int .i64 n] 38, box gm [.int .u8 k2, .string nm2, .string dt2, .int .i64 n2] 38, box ga [.slice Aa_ (l2).length ca_, .bool true, .int .i64 fu2, .int .i64 fa2] 24, row k43 43 (.slice Aa_ (l2).length ca_) l2, row k43 43 (.slice (some ad2) (l2).length cb_) l2]) rfl (t := 43) (p := 11) rfl rfl ?hr (H1 := (Sep.set0 (Sep.set0 (Sep.set0 H.out 0 (.string x.f0) rfl) 1 (.string x.f1) rfl) 2 (.int .i64 x.f2) rfl)) ?_;
                      (case hr => first | (go_simp; done) | (go_simp; rfl));
                      intro wd41 n_;
                      clear H c_f z_f c_d z_d c_s z_s c_m z_m c_a z_a;
                      have H := n_;
                      clear n_;
                      have c_f := H.out.cell (g := gf) mem0;
                      have z_f := H.out.frozen (g := gf) mem0;
                      have c_d := H.out.cell (g := gd) mem1;
                      have z_d := H.out.frozen (g := gd) mem1;
                      have c_s := H.out.cell (g := gs) mem2;
                      have z_s := H.out.frozen (g := gs) mem2;
                      have c_m := H.out.cell (g := gm) mem3;
                      have z_m := H.out.frozen (g := gm) mem3;
                      have c_a := H.out.cell (g := ga) mem4;
                      have z_a := H.out.frozen (g := ga) mem4;
                      clear h3 h4 h5;
                      obtain ⟨h0, h1, h2⟩ := at43 (H.out.came HRp.out) HX.out)
                  | fail)
              go_quiet (fail)
              go_wp2
              refine ⟨⟨i + 1, by congr 1, by omega, ⟨?_⟩⟩, by simp [intOf]; omega⟩
              exact (Sep.drop0 (Sep.drewN H.out _))
            ·
              go_wp2_with fail
              obtain ⟨e3, hdo3, he3⟩ := do_down HOK2.out fu2 fa2 k2 nm2 dt2 n2
              refine ((disk_Do.calls Aa_ ca_ l2 true fu2 fa2 k2 nm2 dt2 n2 l2 true fu2 fa2 e3 _ (H.out.reads mem4).2.2 (H.out.reads mem4).2.1 hdo3).mono ?_)
              rintro e wd42 ⟨v_, rfl, ho_, hb_⟩
              obtain ⟨Ac_, cc_, eo_⟩ := Kd.R_slice ho_
              subst eo_
              have n_ : Aside0 (Sep w wd42 [row k43 43 (.slice Ac_ (l2).length cc_) l2, box gd [.slice A l2.length c, .bool dn, .int .i64 fu, .int .i64 fa] 24, box gs [.int .u8 k, .string nm, .string dt, .int .i64 n] 38, box gm [.int .u8 k2, .string nm2, .string dt2, .int .i64 n2] 38, box ga [.slice Aa_ (l2).length ca_, .bool true, .int .i64 fu2, .int .i64 fa2] 24, row k43 43 (.slice Aa_ (l2).length ca_) l2, row k43 43 (.slice Ab_ (l2).length cb_) l2]) := ⟨Sep.push_row H.out hb_ ho_ k43_flat⟩
              clear H c_d z_d c_s z_s c_m z_m c_a z_a
              have H := n_
              clear n_
              have c_d := H.out.cell (g := gd) mem1
              have z_d := H.out.frozen (g := gd) mem1
              have c_s := H.out.cell (g := gs) mem2
              have z_s := H.out.frozen (g := gs) mem2
              have c_m := H.out.cell (g := gm) mem3
              have z_m := H.out.frozen (g := gm) mem3
              have c_a := H.out.cell (g := ga) mem4
              have z_a := H.out.frozen (g := ga) mem4
              clear ho_ hb_
              go_wp2_with (first
                  | ((with_reducible refine gate_dst (N := 12) rfl ?_);
                      refine new_box rfl H (cs := [.slice none 0 0, .bool false, .int .i64 0, .int .i64 0]) (t := 24) ?hr ?_;
                      (case hr => first | (go_simp; done) | (go_simp; rfl));
                      intro gc wd43 n_;
                      simp only [Act.put, List.setIfInBounds_toArray, List.set_cons_zero, List.set_cons_succ];
                      clear H c_d z_d c_s z_s c_m z_m c_a z_a;
                      have H := n_;
                      clear n_;
                      have c_c := H.out.cell (g := gc) mem0;
                      have z_c := H.out.frozen (g := gc) mem0;
                      have c_d := H.out.cell (g := gd) mem2;
                      have z_d := H.out.frozen (g := gd) mem2;
                      have c_s := H.out.cell (g := gs) mem3;
                      have z_s := H.out.frozen (g := gs) mem3;
                      have c_m := H.out.cell (g := gm) mem4;
                      have z_m := H.out.frozen (g := gm) mem4;
                      have c_a := H.out.cell (g := ga) mem5;
                      have z_a := H.out.frozen (g := ga) mem5)
                  | ((with_reducible refine gate_store (t := 24) (p := 12) rfl ?_);
                      refine put_box (rs1 := [box gc [.slice Ac_ (l2).length cc_, .bool true, .int .i64 fu2, .int .i64 fa2] 24, row k43 43 (.slice Ac_ (l2).length cc_) l2, box gd [.slice A l2.length c, .bool dn, .int .i64 fu, .int .i64 fa] 24, box gs [.int .u8 k, .string nm, .string dt, .int .i64 n] 38, box gm [.int .u8 k2, .string nm2, .string dt2, .int .i64 n2] 38, box ga [.slice Aa_ (l2).length ca_, .bool true, .int .i64 fu2, .int .i64 fa2] 24, row k43 43 (.slice Aa_ (l2).length ca_) l2, row k43 43 (.slice Ab_ (l2).length cb_) l2]) rfl (t := 24) (p := 12) rfl rfl ?hr (H1 := (Sep.set0 (Sep.set0 (Sep.set0 (Sep.set0 H.out 0 (.slice Ac_ (l2).length cc_) rfl) 1 (.bool true) rfl) 2 (.int .i64 fu2) rfl) 3 (.int .i64 fa2) rfl)) ?_;
                      (case hr => first | (go_simp; done) | (go_simp; rfl));
                      intro wd44 n_;
                      clear H c_c z_c c_d z_d c_s z_s c_m z_m c_a z_a;
                      have H := n_;
                      clear n_;
                      have c_c := H.out.cell (g := gc) mem0;
                      have z_c := H.out.frozen (g := gc) mem0;
                      have c_d := H.out.cell (g := gd) mem2;
                      have z_d := H.out.frozen (g := gd) mem2;
                      have c_s := H.out.cell (g := gs) mem3;
                      have z_s := H.out.frozen (g := gs) mem3;
                      have c_m := H.out.cell (g := gm) mem4;
                      have z_m := H.out.frozen (g := gm) mem4;
                      have c_a := H.out.cell (g := ga) mem5;
                      have z_a := H.out.frozen (g := ga) mem5)
                  | fail)
              refine ((penstockref09_Same.calls 70 Aa_ ca_ l2 true fu2 fa2 Ac_ cc_ l2 true fu2 fa2 true _ (H.out.reads mem6).2.2 (H.out.reads mem6).2.1 (H.out.reads mem1).2.2 (H.out.reads mem1).2.1 (same_refl l2 true fu2 fa2 hl2)).mono ?_)
              rintro e wd45 ⟨rfl, hb_⟩
              have n_ : Aside0 (Sep w wd45 [box gc [.slice Ac_ (l2).length cc_, .bool true, .int .i64 fu2, .int .i64 fa2] 24, row k43 43 (.slice Ac_ (l2).length cc_) l2, box gd [.slice A l2.length c, .bool dn, .int .i64 fu, .int .i64 fa] 24, box gs [.int .u8 k, .string nm, .string dt, .int .i64 n] 38, box gm [.int .u8 k2, .string nm2, .string dt2, .int .i64 n2] 38, box ga [.slice Aa_ (l2).length ca_, .bool true, .int .i64 fu2, .int .i64 fa2] 24, row k43 43 (.slice Aa_ (l2).length ca_) l2, row k43 43 (.slice Ab_ (l2).length cb_) l2]) := ⟨H.out.step hb_⟩
              clear H c_c z_c c_d z_d c_s z_s c_m z_m c_a z_a
              have H := n_
              clear n_
              have c_c := H.out.cell (g := gc) mem0
              have z_c := H.out.frozen (g := gc) mem0
              have c_d := H.out.cell (g := gd) mem2
              have z_d := H.out.frozen (g := gd) mem2
              have c_s := H.out.cell (g := gs) mem3
              have z_s := H.out.frozen (g := gs) mem3
              have c_m := H.out.cell (g := gm) mem4
              have z_m := H.out.frozen (g := gm) mem4
              have c_a := H.out.cell (g := ga) mem5
              have z_a := H.out.frozen (g := ga) mem5
              clear hb_
              rcases he3 with rfl | ⟨he3, rfl⟩
              · go_wp2
                go_ret
                exact ⟨rfl, H.out.below⟩
              · go_wp2
                go_ret
                exact ⟨rfl, H.out.below⟩
end Go.Proofs.Ytanonhipicoigaa.T
