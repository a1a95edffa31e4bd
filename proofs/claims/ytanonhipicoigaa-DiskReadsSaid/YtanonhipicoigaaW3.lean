import Derived.Test.YtanonhipicoigaaL1
import Derived.Test.YtanonhipicoigaaG11
namespace Go.Proofs.Ytanonhipicoigaa.T
open Go.RowKit Go.Proofs.YtanonhipicoigaaW.PrintWords Go.Proofs.YtanonhipicoigaaW.PrintLast Go.Proofs.YtanonhipicoigaaW.PrintMore
set_option linter.unusedVariables false
set_option linter.unusedSimpArgs false

set_option maxHeartbeats 8000000 in
set_option maxRecDepth 100000 in
theorem DiskReads_walk (A : Option Addr) (c : Nat) (l : List S43) (dn : Bool) (fu fa : Int) (name data : ByteArray) (size : Int) (w : World) (hr : Kd.C k43 w A l.length l) (hc : l.length ≤ c) :
    Calls Try.prog 3 #[.agg #[.slice A l.length c, .bool dn, .int .i64 fu, .int .i64 fa], .string name, .string data, .int .i64 size] w fun e w' => e = .returned (.bool true) ∧ Below w.heap.size w w' := by
  have HRp := Aside0.mk hr
  have HCp := Aside0.mk hc
  clear hr hc
  have HB := Aside0.mk (Below.refl w.heap.size w)
  obtain ⟨was, w1, hrd⟩ : ∃ was w1, readF l dn name = (was, w1) := ⟨_, _, rfl⟩
  have HRD := Aside0.mk hrd
  have hrd2 := disk_Read_eq l dn (-1) (-1) name
  rw [hrd] at hrd2
  have HRD2 := Aside0.mk hrd2
  obtain ⟨l2, dn2, fu2, fa2, w2, hap⟩ : ∃ l2 dn2 fu2 fa2 w2, appendF l dn (-1) (-1) name data = (l2, dn2, fu2, fa2, w2) := ⟨_, _, _, _, _, rfl⟩
  have hap2 := disk_Append_eq l dn (-1) (-1) name data
  rw [hap] at hap2
  have HAP := Aside0.mk hap
  have HAP2 := Aside0.mk hap2
  clear hrd hrd2 hap hap2
  go_enter Try.func3, Try.ntmps3
  go_wp2_with (first
      | ((with_reducible refine gate_dst (N := 4) rfl ?_);
          refine box_event ?hg (N := 4) ?hd (cs := #[(.slice A l.length c), .bool dn, .int .i64 fu, .int .i64 fa]) (t := 24) ?hr ?_;
          (case hd => rfl); (case hg => rfl); (case hr => first | (go_simp; done) | (go_simp; rfl));
          intro gd hg wd1 hbox hb;
          have n0_ := Aside0.mk (below_step HB.out hb);
          have n1_ := Aside0.mk (show w.heap.size ≤ gd by rw [hg]; exact (HB.out).size);
          clear HB;
          have HB := n0_;
          have GEd := n1_;
          clear n0_ n1_;
          have BKd := Aside0.mk hbox;
          clear hg hbox hb)
      | fail)
  refine ((lives.calls true _ rfl).mono ?_)
  rintro e wd2 ⟨rfl, hb⟩
  have n0_ := Aside0.mk (below_step HB.out hb)
  have n1_ := Aside0.mk (show wd2.heap[gd]? = some (.cells #[(.slice A l.length c), .bool dn, .int .i64 fu, .int .i64 fa] 24 (0, 0)) from blk_below BKd.out hb)
  clear HB BKd
  have HB := n0_
  have BKd := n1_
  clear n0_ n1_
  clear hb
  have cd_0 : wd2.cell? ⟨gd, 0, none⟩ = some ((.slice A l.length c)) := (blk_cell BKd.out 0).trans rfl
  have cd_1 : wd2.cell? ⟨gd, 1, none⟩ = some (.bool dn) := (blk_cell BKd.out 1).trans rfl
  have cd_2 : wd2.cell? ⟨gd, 2, none⟩ = some (.int .i64 fu) := (blk_cell BKd.out 2).trans rfl
  have cd_3 : wd2.cell? ⟨gd, 3, none⟩ = some (.int .i64 fa) := (blk_cell BKd.out 3).trans rfl
  have fd_0 := blk_frozen BKd.out 0
  have fd_1 := blk_frozen BKd.out 1
  have fd_2 := blk_frozen BKd.out 2
  have fd_3 := blk_frozen BKd.out 3
  go_wp2_with fail
  refine ((disk_Read.calls A c l (dn) (-1) (-1) (name) (was) (w1) _ (Kd.C_below HRp.out (below_set (j := 3) (below_set (j := 2) HB.out GEd.out) GEd.out)) HCp.out HRD2.out).mono ?_)
  rintro e wd3 ⟨rfl, hb⟩
  have n0_ := Aside0.mk (below_step (below_set (j := 3) (below_set (j := 2) HB.out GEd.out) GEd.out) hb)
  have n1_ := Aside0.mk (show wd3.heap[gd]? = some (.cells #[(.slice A l.length c), .bool dn, .int .i64 (-1), .int .i64 (-1)] 24 (0, 0)) from blk_below (blk_put (cs := #[(.slice A l.length c), .bool dn, .int .i64 (-1), .int .i64 fa]) (cs' := #[(.slice A l.length c), .bool dn, .int .i64 (-1), .int .i64 (-1)]) (blk_put (cs := #[(.slice A l.length c), .bool dn, .int .i64 fu, .int .i64 fa]) (cs' := #[(.slice A l.length c), .bool dn, .int .i64 (-1), .int .i64 fa]) BKd.out 2 (.int .i64 (-1)) rfl) 3 (.int .i64 (-1)) rfl) hb)
  clear HB BKd
  clear cd_0 cd_1 cd_2 cd_3 fd_0 fd_1 fd_2 fd_3
  have HB := n0_
  have BKd := n1_
  clear n0_ n1_
  clear hb
  have cd_0 : wd3.cell? ⟨gd, 0, none⟩ = some ((.slice A l.length c)) := (blk_cell BKd.out 0).trans rfl
  have cd_1 : wd3.cell? ⟨gd, 1, none⟩ = some (.bool dn) := (blk_cell BKd.out 1).trans rfl
  have cd_2 : wd3.cell? ⟨gd, 2, none⟩ = some (.int .i64 (-1)) := (blk_cell BKd.out 2).trans rfl
  have cd_3 : wd3.cell? ⟨gd, 3, none⟩ = some (.int .i64 (-1)) := (blk_cell BKd.out 3).trans rfl
  have fd_0 := blk_frozen BKd.out 0
  have fd_1 := blk_frozen BKd.out 1
  have fd_2 := blk_frozen BKd.out 2
  have fd_3 := blk_frozen BKd.out 3
  go_wp2_with fail
  refine ((disk_Append.calls A c l (dn) (-1) (-1) (name) (data) (l2) (dn2) (fu2) (fa2) (w2) _ (Kd.C_below HRp.out HB.out) HCp.out HAP2.out).mono ?_)
  rintro e wd4 ⟨v, rfl, ho, hb⟩
  have n0_ := Aside0.mk (below_step HB.out hb)
  have n1_ := Aside0.mk (show wd4.heap[gd]? = some (.cells #[(.slice A l.length c), .bool dn, .int .i64 (-1), .int .i64 (-1)] 24 (0, 0)) from blk_below BKd.out hb)
  have n2_ := Aside0.mk (Kd.R_lower ho (HB.out).size)
  clear HB BKd
  clear cd_0 cd_1 cd_2 cd_3 fd_0 fd_1 fd_2 fd_3
  have HB := n0_
  have BKd := n1_
  have HOa := n2_
  clear n0_ n1_ n2_
  obtain ⟨Aa, ca, eo⟩ := Kd.R_slice HOa.out
  subst eo
  clear ho hb
  by_cases hw1 : w1 = 0
  · subst hw1
    obtain ⟨hok, rfl, x, hx, hi, hn, rfl⟩ := read_zero HRD.out
    have hxs := (right_get hok hx).2.1
    rcases append_at hok hx hi hn data with ⟨l3, h1, h2, hcat⟩ | ⟨l3, h1⟩
    · have e := HAP.out
      rw [h1] at e
      simp only [Prod.mk.injEq] at e
      obtain ⟨rfl, rfl, rfl, rfl, rfl⟩ := e
      have h2' := disk_Read_eq l3 false (-1) (-1) name
      rw [h2] at h2'
      by_cases hs : 0 ≤ size ∧ size ≤ (x.f1.size : Int)
      · obtain ⟨hs0, hs1⟩ := hs
        obtain ⟨l4, h3, h4⟩ := cut_at hok hx hi hn size hs0 hs1
        have h4' := disk_Read_eq l4 false (-1) (-1) name
        rw [h4] at h4'
        go_wp2_with (first
            | ((with_reducible refine gate_dst (N := 11) rfl ?_);
                refine box_event ?hg (N := 11) ?hd (cs := #[.slice none 0 0, .bool false, .int .i64 0, .int .i64 0]) (t := 24) ?hr ?_;
                (case hd => rfl); (case hg => rfl); (case hr => first | (go_simp; done) | (go_simp; rfl));
                intro ga hg wd5 hbox hb;
                have n0_ := Aside0.mk (below_step HB.out hb);
                have n1_ := Aside0.mk (show wd5.heap[gd]? = some (.cells #[(.slice A l.length c), .bool false, .int .i64 (-1), .int .i64 (-1)] 24 (0, 0)) from blk_below BKd.out hb);
                have n2_ := Aside0.mk (Kd.R_below HOa.out hb);
                have n3_ := Aside0.mk (show w.heap.size ≤ ga by rw [hg]; exact (HB.out).size);
                have n4_ := Aside0.mk (show gd ≠ ga by rw [hg]; exact Nat.ne_of_lt (blk_lt BKd.out));
                have n5_ := Aside0.mk (show ga ≠ gd by rw [hg]; exact Nat.ne_of_gt (blk_lt BKd.out));
                clear HB BKd HOa;
                have HB := n0_;
                have BKd := n1_;
                have HOa := n2_;
                have GEa := n3_;
                have Nd_a := n4_;
                have Na_d := n5_;
                clear n0_ n1_ n2_ n3_ n4_ n5_;
                have BKa := Aside0.mk hbox;
                clear hg hbox hb;
                have ned_a := Nd_a.out;
                have nea_d := Na_d.out;
                have cd_0 : wd5.cell? ⟨gd, 0, none⟩ = some ((.slice A l.length c)) := (blk_cell BKd.out 0).trans rfl;
                have cd_1 : wd5.cell? ⟨gd, 1, none⟩ = some (.bool false) := (blk_cell BKd.out 1).trans rfl;
                have cd_2 : wd5.cell? ⟨gd, 2, none⟩ = some (.int .i64 (-1)) := (blk_cell BKd.out 2).trans rfl;
                have cd_3 : wd5.cell? ⟨gd, 3, none⟩ = some (.int .i64 (-1)) := (blk_cell BKd.out 3).trans rfl;
                have ca_0 : wd5.cell? ⟨ga, 0, none⟩ = some (.slice none 0 0) := (blk_cell BKa.out 0).trans rfl;
                have ca_1 : wd5.cell? ⟨ga, 1, none⟩ = some (.bool false) := (blk_cell BKa.out 1).trans rfl;
                have ca_2 : wd5.cell? ⟨ga, 2, none⟩ = some (.int .i64 0) := (blk_cell BKa.out 2).trans rfl;
                have ca_3 : wd5.cell? ⟨ga, 3, none⟩ = some (.int .i64 0) := (blk_cell BKa.out 3).trans rfl;
                have fa_0 := blk_frozen BKa.out 0;
                have fa_1 := blk_frozen BKa.out 1;
                have fa_2 := blk_frozen BKa.out 2;
                have fa_3 := blk_frozen BKa.out 3)
            | fail)
        refine ((disk_Read.calls Aa ca l3 (false) (-1) (-1) (name) ((x.f1 ++ data)) (0) _ (Kd.R_reads' (R4 HOa.out BKa.out (by decide) _ _ _ _)).2.2 (Kd.R_reads' HOa.out).2.1 h2').mono ?_)
        rintro e wd6 ⟨rfl, hb⟩
        have n0_ := Aside0.mk (below_step (below4 HB.out GEa.out _ _ _ _) hb)
        have n1_ := Aside0.mk (show wd6.heap[gd]? = some (.cells #[(.slice A l.length c), .bool false, .int .i64 (-1), .int .i64 (-1)] 24 (0, 0)) from blk_below (far4 BKd.out Nd_a.out _ _ _ _) hb)
        have n2_ := Aside0.mk (show wd6.heap[ga]? = some (.cells #[.slice Aa l3.length ca, .bool false, .int .i64 (-1), .int .i64 (-1)] 24 (0, 0)) from blk_below (put4 BKa.out (.slice Aa l3.length ca) (.bool false) (.int .i64 (-1)) (.int .i64 (-1))) hb)
        have n3_ := Aside0.mk (Kd.R_below (R4 HOa.out BKa.out (by decide) _ _ _ _) hb)
        clear HB BKd BKa HOa
        clear ned_a nea_d cd_0 cd_1 cd_2 cd_3 ca_0 ca_1 ca_2 ca_3 fa_0 fa_1 fa_2 fa_3
        have HB := n0_
        have BKd := n1_
        have BKa := n2_
        have HOa := n3_
        clear n0_ n1_ n2_ n3_
        clear hb
        have cd_0 : wd6.cell? ⟨gd, 0, none⟩ = some ((.slice A l.length c)) := (blk_cell BKd.out 0).trans rfl
        have cd_1 : wd6.cell? ⟨gd, 1, none⟩ = some (.bool false) := (blk_cell BKd.out 1).trans rfl
        have cd_2 : wd6.cell? ⟨gd, 2, none⟩ = some (.int .i64 (-1)) := (blk_cell BKd.out 2).trans rfl
        have cd_3 : wd6.cell? ⟨gd, 3, none⟩ = some (.int .i64 (-1)) := (blk_cell BKd.out 3).trans rfl
        go_wp2_with fail
        refine ((disk_Cut.calls A c l (false) (-1) (-1) (name) (size) (l4) (false) (-1) (-1) (0) _ (Kd.C_below HRp.out HB.out) HCp.out (by rw [disk_Cut_eq, h3])).mono ?_)
        rintro e wd7 ⟨v, rfl, ho, hb⟩
        have n0_ := Aside0.mk (below_step HB.out hb)
        have n1_ := Aside0.mk (show wd7.heap[gd]? = some (.cells #[(.slice A l.length c), .bool false, .int .i64 (-1), .int .i64 (-1)] 24 (0, 0)) from blk_below BKd.out hb)
        have n2_ := Aside0.mk (show wd7.heap[ga]? = some (.cells #[.slice Aa l3.length ca, .bool false, .int .i64 (-1), .int .i64 (-1)] 24 (0, 0)) from blk_below BKa.out hb)
        have n3_ := Aside0.mk (Kd.R_below HOa.out hb)
        have n4_ := Aside0.mk (Kd.R_lower ho (HB.out).size)
        clear HB BKd BKa HOa
        clear cd_0 cd_1 cd_2 cd_3
        have HB := n0_
        have BKd := n1_
        have BKa := n2_
        have HOa := n3_
        have HOb := n4_
        clear n0_ n1_ n2_ n3_ n4_
        obtain ⟨Ab, cb, eo⟩ := Kd.R_slice HOb.out
        subst eo
        clear ho hb
        have cd_0 : wd7.cell? ⟨gd, 0, none⟩ = some ((.slice A l.length c)) := (blk_cell BKd.out 0).trans rfl
        have cd_1 : wd7.cell? ⟨gd, 1, none⟩ = some (.bool false) := (blk_cell BKd.out 1).trans rfl
        have cd_2 : wd7.cell? ⟨gd, 2, none⟩ = some (.int .i64 (-1)) := (blk_cell BKd.out 2).trans rfl
        have cd_3 : wd7.cell? ⟨gd, 3, none⟩ = some (.int .i64 (-1)) := (blk_cell BKd.out 3).trans rfl
        have fd_0 := blk_frozen BKd.out 0
        have fd_1 := blk_frozen BKd.out 1
        have fd_2 := blk_frozen BKd.out 2
        have fd_3 := blk_frozen BKd.out 3
        go_wp2_with (first
            | ((with_reducible refine gate_dst (N := 15) rfl ?_);
                refine box_event ?hg (N := 15) ?hd (cs := #[.slice none 0 0, .bool false, .int .i64 0, .int .i64 0]) (t := 24) ?hr ?_;
                (case hd => rfl); (case hg => rfl); (case hr => first | (go_simp; done) | (go_simp; rfl));
                intro gb hg wd8 hbox hb;
                have n0_ := Aside0.mk (below_step HB.out hb);
                have n1_ := Aside0.mk (show wd8.heap[gd]? = some (.cells #[(.slice A l.length c), .bool false, .int .i64 (-1), .int .i64 (-1)] 24 (0, 0)) from blk_below BKd.out hb);
                have n2_ := Aside0.mk (show wd8.heap[ga]? = some (.cells #[.slice Aa l3.length ca, .bool false, .int .i64 (-1), .int .i64 (-1)] 24 (0, 0)) from blk_below BKa.out hb);
                have n3_ := Aside0.mk (Kd.R_below HOa.out hb);
                have n4_ := Aside0.mk (Kd.R_below HOb.out hb);
                have n5_ := Aside0.mk (show w.heap.size ≤ gb by rw [hg]; exact (HB.out).size);
                have n6_ := Aside0.mk (show gd ≠ gb by rw [hg]; exact Nat.ne_of_lt (blk_lt BKd.out));
                have n7_ := Aside0.mk (show gb ≠ gd by rw [hg]; exact Nat.ne_of_gt (blk_lt BKd.out));
                have n8_ := Aside0.mk (show ga ≠ gb by rw [hg]; exact Nat.ne_of_lt (blk_lt BKa.out));
                have n9_ := Aside0.mk (show gb ≠ ga by rw [hg]; exact Nat.ne_of_gt (blk_lt BKa.out));
                clear HB BKd BKa HOa HOb;
                clear cd_0 cd_1 cd_2 cd_3 fd_0 fd_1 fd_2 fd_3;
                have HB := n0_;
                have BKd := n1_;
                have BKa := n2_;
                have HOa := n3_;
                have HOb := n4_;
                have GEb := n5_;
                have Nd_b := n6_;
                have Nb_d := n7_;
                have Na_b := n8_;
                have Nb_a := n9_;
                clear n0_ n1_ n2_ n3_ n4_ n5_ n6_ n7_ n8_ n9_;
                have BKb := Aside0.mk hbox;
                clear hg hbox hb;
                have ned_b := Nd_b.out;
                have neb_d := Nb_d.out;
                have cd_0 : wd8.cell? ⟨gd, 0, none⟩ = some ((.slice A l.length c)) := (blk_cell BKd.out 0).trans rfl;
                have cd_1 : wd8.cell? ⟨gd, 1, none⟩ = some (.bool false) := (blk_cell BKd.out 1).trans rfl;
                have cd_2 : wd8.cell? ⟨gd, 2, none⟩ = some (.int .i64 (-1)) := (blk_cell BKd.out 2).trans rfl;
                have cd_3 : wd8.cell? ⟨gd, 3, none⟩ = some (.int .i64 (-1)) := (blk_cell BKd.out 3).trans rfl;
                have cb_0 : wd8.cell? ⟨gb, 0, none⟩ = some (.slice none 0 0) := (blk_cell BKb.out 0).trans rfl;
                have cb_1 : wd8.cell? ⟨gb, 1, none⟩ = some (.bool false) := (blk_cell BKb.out 1).trans rfl;
                have cb_2 : wd8.cell? ⟨gb, 2, none⟩ = some (.int .i64 0) := (blk_cell BKb.out 2).trans rfl;
                have cb_3 : wd8.cell? ⟨gb, 3, none⟩ = some (.int .i64 0) := (blk_cell BKb.out 3).trans rfl;
                have fb_0 := blk_frozen BKb.out 0;
                have fb_1 := blk_frozen BKb.out 1;
                have fb_2 := blk_frozen BKb.out 2;
                have fb_3 := blk_frozen BKb.out 3)
            | fail)
        refine ((disk_Read.calls Ab cb l4 (false) (-1) (-1) (name) ((x.f1.extract 0 size.toNat)) (0) _ (Kd.R_reads' (R4 HOb.out BKb.out (by decide) _ _ _ _)).2.2 (Kd.R_reads' HOb.out).2.1 h4').mono ?_)
        rintro e wd9 ⟨rfl, hb⟩
        have n0_ := Aside0.mk (below_step (below4 HB.out GEb.out _ _ _ _) hb)
        have n1_ := Aside0.mk (show wd9.heap[gd]? = some (.cells #[(.slice A l.length c), .bool false, .int .i64 (-1), .int .i64 (-1)] 24 (0, 0)) from blk_below (far4 BKd.out Nd_b.out _ _ _ _) hb)
        have n2_ := Aside0.mk (show wd9.heap[ga]? = some (.cells #[.slice Aa l3.length ca, .bool false, .int .i64 (-1), .int .i64 (-1)] 24 (0, 0)) from blk_below (far4 BKa.out Na_b.out _ _ _ _) hb)
        have n3_ := Aside0.mk (show wd9.heap[gb]? = some (.cells #[.slice Ab l4.length cb, .bool false, .int .i64 (-1), .int .i64 (-1)] 24 (0, 0)) from blk_below (put4 BKb.out (.slice Ab l4.length cb) (.bool false) (.int .i64 (-1)) (.int .i64 (-1))) hb)
        have n4_ := Aside0.mk (Kd.R_below (R4 HOa.out BKb.out (by decide) _ _ _ _) hb)
        have n5_ := Aside0.mk (Kd.R_below (R4 HOb.out BKb.out (by decide) _ _ _ _) hb)
        clear HB BKd BKa BKb HOa HOb
        clear ned_b neb_d cd_0 cd_1 cd_2 cd_3 cb_0 cb_1 cb_2 cb_3 fb_0 fb_1 fb_2 fb_3
        have HB := n0_
        have BKd := n1_
        have BKa := n2_
        have BKb := n3_
        have HOa := n4_
        have HOb := n5_
        clear n0_ n1_ n2_ n3_ n4_ n5_
        clear hb
        have cd_0 : wd9.cell? ⟨gd, 0, none⟩ = some ((.slice A l.length c)) := (blk_cell BKd.out 0).trans rfl
        have cd_1 : wd9.cell? ⟨gd, 1, none⟩ = some (.bool false) := (blk_cell BKd.out 1).trans rfl
        have cd_2 : wd9.cell? ⟨gd, 2, none⟩ = some (.int .i64 (-1)) := (blk_cell BKd.out 2).trans rfl
        have cd_3 : wd9.cell? ⟨gd, 3, none⟩ = some (.int .i64 (-1)) := (blk_cell BKd.out 3).trans rfl
        go_wp2_with fail
        obtain ⟨l5, h5, h6⟩ := remove_at hok hx hi hn
        have h6' := disk_Read_eq l5 false (-1) (-1) name
        rw [h6] at h6'
        refine ((disk_Remove.calls A c l (false) (-1) (-1) (name) (l5) (false) (-1) (-1) (0) _ (Kd.C_below HRp.out HB.out) HCp.out (by rw [disk_Remove_eq, h5])).mono ?_)
        rintro e wd10 ⟨v, rfl, ho, hb⟩
        have n0_ := Aside0.mk (below_step HB.out hb)
        have n1_ := Aside0.mk (show wd10.heap[gd]? = some (.cells #[(.slice A l.length c), .bool false, .int .i64 (-1), .int .i64 (-1)] 24 (0, 0)) from blk_below BKd.out hb)
        have n2_ := Aside0.mk (show wd10.heap[ga]? = some (.cells #[.slice Aa l3.length ca, .bool false, .int .i64 (-1), .int .i64 (-1)] 24 (0, 0)) from blk_below BKa.out hb)
        have n3_ := Aside0.mk (show wd10.heap[gb]? = some (.cells #[.slice Ab l4.length cb, .bool false, .int .i64 (-1), .int .i64 (-1)] 24 (0, 0)) from blk_below BKb.out hb)
        have n4_ := Aside0.mk (Kd.R_below HOa.out hb)
        have n5_ := Aside0.mk (Kd.R_below HOb.out hb)
        have n6_ := Aside0.mk (Kd.R_lower ho (HB.out).size)
        clear HB BKd BKa BKb HOa HOb
        clear cd_0 cd_1 cd_2 cd_3
        have HB := n0_
        have BKd := n1_
        have BKa := n2_
        have BKb := n3_
        have HOa := n4_
        have HOb := n5_
        have HOc := n6_
        clear n0_ n1_ n2_ n3_ n4_ n5_ n6_
        obtain ⟨Ac, cc, eo⟩ := Kd.R_slice HOc.out
        subst eo
        clear ho hb
        go_wp2_with (first
            | ((with_reducible refine gate_dst (N := 19) rfl ?_);
                refine box_event ?hg (N := 19) ?hd (cs := #[.slice none 0 0, .bool false, .int .i64 0, .int .i64 0]) (t := 24) ?hr ?_;
                (case hd => rfl); (case hg => rfl); (case hr => first | (go_simp; done) | (go_simp; rfl));
                intro gc hg wd11 hbox hb;
                have n0_ := Aside0.mk (below_step HB.out hb);
                have n1_ := Aside0.mk (show wd11.heap[gd]? = some (.cells #[(.slice A l.length c), .bool false, .int .i64 (-1), .int .i64 (-1)] 24 (0, 0)) from blk_below BKd.out hb);
                have n2_ := Aside0.mk (show wd11.heap[ga]? = some (.cells #[.slice Aa l3.length ca, .bool false, .int .i64 (-1), .int .i64 (-1)] 24 (0, 0)) from blk_below BKa.out hb);
                have n3_ := Aside0.mk (show wd11.heap[gb]? = some (.cells #[.slice Ab l4.length cb, .bool false, .int .i64 (-1), .int .i64 (-1)] 24 (0, 0)) from blk_below BKb.out hb);
                have n4_ := Aside0.mk (Kd.R_below HOa.out hb);
                have n5_ := Aside0.mk (Kd.R_below HOb.out hb);
                have n6_ := Aside0.mk (Kd.R_below HOc.out hb);
                have n7_ := Aside0.mk (show w.heap.size ≤ gc by rw [hg]; exact (HB.out).size);
                have n8_ := Aside0.mk (show gd ≠ gc by rw [hg]; exact Nat.ne_of_lt (blk_lt BKd.out));
                have n9_ := Aside0.mk (show gc ≠ gd by rw [hg]; exact Nat.ne_of_gt (blk_lt BKd.out));
                have n10_ := Aside0.mk (show ga ≠ gc by rw [hg]; exact Nat.ne_of_lt (blk_lt BKa.out));
                have n11_ := Aside0.mk (show gc ≠ ga by rw [hg]; exact Nat.ne_of_gt (blk_lt BKa.out));
                have n12_ := Aside0.mk (show gb ≠ gc by rw [hg]; exact Nat.ne_of_lt (blk_lt BKb.out));
                have n13_ := Aside0.mk (show gc ≠ gb by rw [hg]; exact Nat.ne_of_gt (blk_lt BKb.out));
                clear HB BKd BKa BKb HOa HOb HOc;
                have HB := n0_;
                have BKd := n1_;
                have BKa := n2_;
                have BKb := n3_;
                have HOa := n4_;
                have HOb := n5_;
                have HOc := n6_;
                have GEc := n7_;
                have Nd_c := n8_;
                have Nc_d := n9_;
                have Na_c := n10_;
                have Nc_a := n11_;
                have Nb_c := n12_;
                have Nc_b := n13_;
                clear n0_ n1_ n2_ n3_ n4_ n5_ n6_ n7_ n8_ n9_ n10_ n11_ n12_ n13_;
                have BKc := Aside0.mk hbox;
                clear hg hbox hb;
                have cc_0 : wd11.cell? ⟨gc, 0, none⟩ = some (.slice none 0 0) := (blk_cell BKc.out 0).trans rfl;
                have cc_1 : wd11.cell? ⟨gc, 1, none⟩ = some (.bool false) := (blk_cell BKc.out 1).trans rfl;
                have cc_2 : wd11.cell? ⟨gc, 2, none⟩ = some (.int .i64 0) := (blk_cell BKc.out 2).trans rfl;
                have cc_3 : wd11.cell? ⟨gc, 3, none⟩ = some (.int .i64 0) := (blk_cell BKc.out 3).trans rfl;
                have fc_0 := blk_frozen BKc.out 0;
                have fc_1 := blk_frozen BKc.out 1;
                have fc_2 := blk_frozen BKc.out 2;
                have fc_3 := blk_frozen BKc.out 3)
            | fail)
        refine ((disk_Read.calls Ac cc l5 (false) (-1) (-1) (name) (⟨#[]⟩) (7) _ (Kd.R_reads' (R4 HOc.out BKc.out (by decide) _ _ _ _)).2.2 (Kd.R_reads' HOc.out).2.1 h6').mono ?_)
        rintro e wd12 ⟨rfl, hb⟩
        have n0_ := Aside0.mk (below_step (below4 HB.out GEc.out _ _ _ _) hb)
        have n1_ := Aside0.mk (show wd12.heap[gd]? = some (.cells #[(.slice A l.length c), .bool false, .int .i64 (-1), .int .i64 (-1)] 24 (0, 0)) from blk_below (far4 BKd.out Nd_c.out _ _ _ _) hb)
        have n2_ := Aside0.mk (show wd12.heap[ga]? = some (.cells #[.slice Aa l3.length ca, .bool false, .int .i64 (-1), .int .i64 (-1)] 24 (0, 0)) from blk_below (far4 BKa.out Na_c.out _ _ _ _) hb)
        have n3_ := Aside0.mk (show wd12.heap[gb]? = some (.cells #[.slice Ab l4.length cb, .bool false, .int .i64 (-1), .int .i64 (-1)] 24 (0, 0)) from blk_below (far4 BKb.out Nb_c.out _ _ _ _) hb)
        have n4_ := Aside0.mk (show wd12.heap[gc]? = some (.cells #[.slice Ac l5.length cc, .bool false, .int .i64 (-1), .int .i64 (-1)] 24 (0, 0)) from blk_below (put4 BKc.out (.slice Ac l5.length cc) (.bool false) (.int .i64 (-1)) (.int .i64 (-1))) hb)
        have n5_ := Aside0.mk (Kd.R_below (R4 HOa.out BKc.out (by decide) _ _ _ _) hb)
        have n6_ := Aside0.mk (Kd.R_below (R4 HOb.out BKc.out (by decide) _ _ _ _) hb)
        have n7_ := Aside0.mk (Kd.R_below (R4 HOc.out BKc.out (by decide) _ _ _ _) hb)
        clear HB BKd BKa BKb BKc HOa HOb HOc
        clear cc_0 cc_1 cc_2 cc_3 fc_0 fc_1 fc_2 fc_3
        have HB := n0_
        have BKd := n1_
        have BKa := n2_
        have BKb := n3_
        have BKc := n4_
        have HOa := n5_
        have HOb := n6_
        have HOc := n7_
        clear n0_ n1_ n2_ n3_ n4_ n5_ n6_ n7_
        clear hb
        go_wp2_with fail
        go_ret
        exact ⟨by simp [*], HB.out⟩
      · obtain ⟨l4, h3⟩ := cut_not hok hx hi hn size (by omega)
        go_wp2_with (first
            | ((with_reducible refine gate_dst (N := 11) rfl ?_);
                refine box_event ?hg (N := 11) ?hd (cs := #[.slice none 0 0, .bool false, .int .i64 0, .int .i64 0]) (t := 24) ?hr ?_;
                (case hd => rfl); (case hg => rfl); (case hr => first | (go_simp; done) | (go_simp; rfl));
                intro ga hg wd13 hbox hb;
                have n0_ := Aside0.mk (below_step HB.out hb);
                have n1_ := Aside0.mk (show wd13.heap[gd]? = some (.cells #[(.slice A l.length c), .bool false, .int .i64 (-1), .int .i64 (-1)] 24 (0, 0)) from blk_below BKd.out hb);
                have n2_ := Aside0.mk (Kd.R_below HOa.out hb);
                have n3_ := Aside0.mk (show w.heap.size ≤ ga by rw [hg]; exact (HB.out).size);
                have n4_ := Aside0.mk (show gd ≠ ga by rw [hg]; exact Nat.ne_of_lt (blk_lt BKd.out));
                have n5_ := Aside0.mk (show ga ≠ gd by rw [hg]; exact Nat.ne_of_gt (blk_lt BKd.out));
                clear HB BKd HOa;
                have HB := n0_;
                have BKd := n1_;
                have HOa := n2_;
                have GEa := n3_;
                have Nd_a := n4_;
                have Na_d := n5_;
                clear n0_ n1_ n2_ n3_ n4_ n5_;
                have BKa := Aside0.mk hbox;
                clear hg hbox hb;
                have ned_a := Nd_a.out;
                have nea_d := Na_d.out;
                have cd_0 : wd13.cell? ⟨gd, 0, none⟩ = some ((.slice A l.length c)) := (blk_cell BKd.out 0).trans rfl;
                have cd_1 : wd13.cell? ⟨gd, 1, none⟩ = some (.bool false) := (blk_cell BKd.out 1).trans rfl;
                have cd_2 : wd13.cell? ⟨gd, 2, none⟩ = some (.int .i64 (-1)) := (blk_cell BKd.out 2).trans rfl;
                have cd_3 : wd13.cell? ⟨gd, 3, none⟩ = some (.int .i64 (-1)) := (blk_cell BKd.out 3).trans rfl;
                have ca_0 : wd13.cell? ⟨ga, 0, none⟩ = some (.slice none 0 0) := (blk_cell BKa.out 0).trans rfl;
                have ca_1 : wd13.cell? ⟨ga, 1, none⟩ = some (.bool false) := (blk_cell BKa.out 1).trans rfl;
                have ca_2 : wd13.cell? ⟨ga, 2, none⟩ = some (.int .i64 0) := (blk_cell BKa.out 2).trans rfl;
                have ca_3 : wd13.cell? ⟨ga, 3, none⟩ = some (.int .i64 0) := (blk_cell BKa.out 3).trans rfl;
                have fa_0 := blk_frozen BKa.out 0;
                have fa_1 := blk_frozen BKa.out 1;
                have fa_2 := blk_frozen BKa.out 2;
                have fa_3 := blk_frozen BKa.out 3)
            | fail)
        refine ((disk_Read.calls Aa ca l3 (false) (-1) (-1) (name) ((x.f1 ++ data)) (0) _ (Kd.R_reads' (R4 HOa.out BKa.out (by decide) _ _ _ _)).2.2 (Kd.R_reads' HOa.out).2.1 h2').mono ?_)
        rintro e wd14 ⟨rfl, hb⟩
        have n0_ := Aside0.mk (below_step (below4 HB.out GEa.out _ _ _ _) hb)
        have n1_ := Aside0.mk (show wd14.heap[gd]? = some (.cells #[(.slice A l.length c), .bool false, .int .i64 (-1), .int .i64 (-1)] 24 (0, 0)) from blk_below (far4 BKd.out Nd_a.out _ _ _ _) hb)
        have n2_ := Aside0.mk (show wd14.heap[ga]? = some (.cells #[.slice Aa l3.length ca, .bool false, .int .i64 (-1), .int .i64 (-1)] 24 (0, 0)) from blk_below (put4 BKa.out (.slice Aa l3.length ca) (.bool false) (.int .i64 (-1)) (.int .i64 (-1))) hb)
        have n3_ := Aside0.mk (Kd.R_below (R4 HOa.out BKa.out (by decide) _ _ _ _) hb)
        clear HB BKd BKa HOa
        clear ned_a nea_d cd_0 cd_1 cd_2 cd_3 ca_0 ca_1 ca_2 ca_3 fa_0 fa_1 fa_2 fa_3
        have HB := n0_
        have BKd := n1_
        have BKa := n2_
        have HOa := n3_
        clear n0_ n1_ n2_ n3_
        clear hb
        have cd_0 : wd14.cell? ⟨gd, 0, none⟩ = some ((.slice A l.length c)) := (blk_cell BKd.out 0).trans rfl
        have cd_1 : wd14.cell? ⟨gd, 1, none⟩ = some (.bool false) := (blk_cell BKd.out 1).trans rfl
        have cd_2 : wd14.cell? ⟨gd, 2, none⟩ = some (.int .i64 (-1)) := (blk_cell BKd.out 2).trans rfl
        have cd_3 : wd14.cell? ⟨gd, 3, none⟩ = some (.int .i64 (-1)) := (blk_cell BKd.out 3).trans rfl
        go_wp2_with fail
        refine ((disk_Cut.calls A c l (false) (-1) (-1) (name) (size) (l4) (false) (-1) (-1) (2) _ (Kd.C_below HRp.out HB.out) HCp.out (by rw [disk_Cut_eq, h3])).mono ?_)
        rintro e wd15 ⟨v, rfl, ho, hb⟩
        have n0_ := Aside0.mk (below_step HB.out hb)
        have n1_ := Aside0.mk (show wd15.heap[gd]? = some (.cells #[(.slice A l.length c), .bool false, .int .i64 (-1), .int .i64 (-1)] 24 (0, 0)) from blk_below BKd.out hb)
        have n2_ := Aside0.mk (show wd15.heap[ga]? = some (.cells #[.slice Aa l3.length ca, .bool false, .int .i64 (-1), .int .i64 (-1)] 24 (0, 0)) from blk_below BKa.out hb)
        have n3_ := Aside0.mk (Kd.R_below HOa.out hb)
        have n4_ := Aside0.mk (Kd.R_lower ho (HB.out).size)
        clear HB BKd BKa HOa
        clear cd_0 cd_1 cd_2 cd_3
        have HB := n0_
        have BKd := n1_
        have BKa := n2_
        have HOa := n3_
        have HOb := n4_
        clear n0_ n1_ n2_ n3_ n4_
        obtain ⟨Ab, cb, eo⟩ := Kd.R_slice HOb.out
        subst eo
        clear ho hb
        have cd_0 : wd15.cell? ⟨gd, 0, none⟩ = some ((.slice A l.length c)) := (blk_cell BKd.out 0).trans rfl
        have cd_1 : wd15.cell? ⟨gd, 1, none⟩ = some (.bool false) := (blk_cell BKd.out 1).trans rfl
        have cd_2 : wd15.cell? ⟨gd, 2, none⟩ = some (.int .i64 (-1)) := (blk_cell BKd.out 2).trans rfl
        have cd_3 : wd15.cell? ⟨gd, 3, none⟩ = some (.int .i64 (-1)) := (blk_cell BKd.out 3).trans rfl
        have fd_0 := blk_frozen BKd.out 0
        have fd_1 := blk_frozen BKd.out 1
        have fd_2 := blk_frozen BKd.out 2
        have fd_3 := blk_frozen BKd.out 3
        have hs' : size < 0 ∨ (0 ≤ size ∧ (x.f1.size : Int) < size) := by omega
        clear hs
        rcases hs' with hs | ⟨hs0, hs1⟩
        ·
          go_wp2_with (first
              | ((with_reducible refine gate_dst (N := 15) rfl ?_);
                  refine box_event ?hg (N := 15) ?hd (cs := #[.slice none 0 0, .bool false, .int .i64 0, .int .i64 0]) (t := 24) ?hr ?_;
                  (case hd => rfl); (case hg => rfl); (case hr => first | (go_simp; done) | (go_simp; rfl));
                  intro gb hg wd16 hbox hb;
                  have n0_ := Aside0.mk (below_step HB.out hb);
                  have n1_ := Aside0.mk (show wd16.heap[gd]? = some (.cells #[(.slice A l.length c), .bool false, .int .i64 (-1), .int .i64 (-1)] 24 (0, 0)) from blk_below BKd.out hb);
                  have n2_ := Aside0.mk (show wd16.heap[ga]? = some (.cells #[.slice Aa l3.length ca, .bool false, .int .i64 (-1), .int .i64 (-1)] 24 (0, 0)) from blk_below BKa.out hb);
                  have n3_ := Aside0.mk (Kd.R_below HOa.out hb);
                  have n4_ := Aside0.mk (Kd.R_below HOb.out hb);
                  have n5_ := Aside0.mk (show w.heap.size ≤ gb by rw [hg]; exact (HB.out).size);
                  have n6_ := Aside0.mk (show gd ≠ gb by rw [hg]; exact Nat.ne_of_lt (blk_lt BKd.out));
                  have n7_ := Aside0.mk (show gb ≠ gd by rw [hg]; exact Nat.ne_of_gt (blk_lt BKd.out));
                  have n8_ := Aside0.mk (show ga ≠ gb by rw [hg]; exact Nat.ne_of_lt (blk_lt BKa.out));
                  have n9_ := Aside0.mk (show gb ≠ ga by rw [hg]; exact Nat.ne_of_gt (blk_lt BKa.out));
                  clear HB BKd BKa HOa HOb;
                  clear cd_0 cd_1 cd_2 cd_3 fd_0 fd_1 fd_2 fd_3;
                  have HB := n0_;
                  have BKd := n1_;
                  have BKa := n2_;
                  have HOa := n3_;
                  have HOb := n4_;
                  have GEb := n5_;
                  have Nd_b := n6_;
                  have Nb_d := n7_;
                  have Na_b := n8_;
                  have Nb_a := n9_;
                  clear n0_ n1_ n2_ n3_ n4_ n5_ n6_ n7_ n8_ n9_;
                  have BKb := Aside0.mk hbox;
                  clear hg hbox hb;
                  have ned_b := Nd_b.out;
                  have neb_d := Nb_d.out;
                  have cd_0 : wd16.cell? ⟨gd, 0, none⟩ = some ((.slice A l.length c)) := (blk_cell BKd.out 0).trans rfl;
                  have cd_1 : wd16.cell? ⟨gd, 1, none⟩ = some (.bool false) := (blk_cell BKd.out 1).trans rfl;
                  have cd_2 : wd16.cell? ⟨gd, 2, none⟩ = some (.int .i64 (-1)) := (blk_cell BKd.out 2).trans rfl;
                  have cd_3 : wd16.cell? ⟨gd, 3, none⟩ = some (.int .i64 (-1)) := (blk_cell BKd.out 3).trans rfl;
                  have cb_0 : wd16.cell? ⟨gb, 0, none⟩ = some (.slice none 0 0) := (blk_cell BKb.out 0).trans rfl;
                  have cb_1 : wd16.cell? ⟨gb, 1, none⟩ = some (.bool false) := (blk_cell BKb.out 1).trans rfl;
                  have cb_2 : wd16.cell? ⟨gb, 2, none⟩ = some (.int .i64 0) := (blk_cell BKb.out 2).trans rfl;
                  have cb_3 : wd16.cell? ⟨gb, 3, none⟩ = some (.int .i64 0) := (blk_cell BKb.out 3).trans rfl;
                  have fb_0 := blk_frozen BKb.out 0;
                  have fb_1 := blk_frozen BKb.out 1;
                  have fb_2 := blk_frozen BKb.out 2;
                  have fb_3 := blk_frozen BKb.out 3)
              | fail)
          obtain ⟨l5, h5, h6⟩ := remove_at hok hx hi hn
          have h6' := disk_Read_eq l5 false (-1) (-1) name
          rw [h6] at h6'
          refine ((disk_Remove.calls A c l (false) (-1) (-1) (name) (l5) (false) (-1) (-1) (0) _ (Kd.C_below HRp.out (below4 HB.out GEb.out _ _ _ _)) HCp.out (by rw [disk_Remove_eq, h5])).mono ?_)
          rintro e wd17 ⟨v, rfl, ho, hb⟩
          have n0_ := Aside0.mk (below_step (below4 HB.out GEb.out _ _ _ _) hb)
          have n1_ := Aside0.mk (show wd17.heap[gd]? = some (.cells #[(.slice A l.length c), .bool false, .int .i64 (-1), .int .i64 (-1)] 24 (0, 0)) from blk_below (far4 BKd.out Nd_b.out _ _ _ _) hb)
          have n2_ := Aside0.mk (show wd17.heap[ga]? = some (.cells #[.slice Aa l3.length ca, .bool false, .int .i64 (-1), .int .i64 (-1)] 24 (0, 0)) from blk_below (far4 BKa.out Na_b.out _ _ _ _) hb)
          have n3_ := Aside0.mk (show wd17.heap[gb]? = some (.cells #[.slice Ab l4.length cb, .bool false, .int .i64 (-1), .int .i64 (-1)] 24 (0, 0)) from blk_below (put4 BKb.out (.slice Ab l4.length cb) (.bool false) (.int .i64 (-1)) (.int .i64 (-1))) hb)
          have n4_ := Aside0.mk (Kd.R_below (R4 HOa.out BKb.out (by decide) _ _ _ _) hb)
          have n5_ := Aside0.mk (Kd.R_below (R4 HOb.out BKb.out (by decide) _ _ _ _) hb)
          have n6_ := Aside0.mk (Kd.R_lower ho ((below4 HB.out GEb.out _ _ _ _)).size)
          clear HB BKd BKa BKb HOa HOb
          clear ned_b neb_d cd_0 cd_1 cd_2 cd_3 cb_0 cb_1 cb_2 cb_3 fb_0 fb_1 fb_2 fb_3
          have HB := n0_
          have BKd := n1_
          have BKa := n2_
          have BKb := n3_
          have HOa := n4_
          have HOb := n5_
          have HOc := n6_
          clear n0_ n1_ n2_ n3_ n4_ n5_ n6_
          obtain ⟨Ac, cc, eo⟩ := Kd.R_slice HOc.out
          subst eo
          clear ho hb
          go_wp2_with (first
              | ((with_reducible refine gate_dst (N := 19) rfl ?_);
                  refine box_event ?hg (N := 19) ?hd (cs := #[.slice none 0 0, .bool false, .int .i64 0, .int .i64 0]) (t := 24) ?hr ?_;
                  (case hd => rfl); (case hg => rfl); (case hr => first | (go_simp; done) | (go_simp; rfl));
                  intro gc hg wd18 hbox hb;
                  have n0_ := Aside0.mk (below_step HB.out hb);
                  have n1_ := Aside0.mk (show wd18.heap[gd]? = some (.cells #[(.slice A l.length c), .bool false, .int .i64 (-1), .int .i64 (-1)] 24 (0, 0)) from blk_below BKd.out hb);
                  have n2_ := Aside0.mk (show wd18.heap[ga]? = some (.cells #[.slice Aa l3.length ca, .bool false, .int .i64 (-1), .int .i64 (-1)] 24 (0, 0)) from blk_below BKa.out hb);
                  have n3_ := Aside0.mk (show wd18.heap[gb]? = some (.cells #[.slice Ab l4.length cb, .bool false, .int .i64 (-1), .int .i64 (-1)] 24 (0, 0)) from blk_below BKb.out hb);
                  have n4_ := Aside0.mk (Kd.R_below HOa.out hb);
                  have n5_ := Aside0.mk (Kd.R_below HOb.out hb);
                  have n6_ := Aside0.mk (Kd.R_below HOc.out hb);
                  have n7_ := Aside0.mk (show w.heap.size ≤ gc by rw [hg]; exact (HB.out).size);
                  have n8_ := Aside0.mk (show gd ≠ gc by rw [hg]; exact Nat.ne_of_lt (blk_lt BKd.out));
                  have n9_ := Aside0.mk (show gc ≠ gd by rw [hg]; exact Nat.ne_of_gt (blk_lt BKd.out));
                  have n10_ := Aside0.mk (show ga ≠ gc by rw [hg]; exact Nat.ne_of_lt (blk_lt BKa.out));
                  have n11_ := Aside0.mk (show gc ≠ ga by rw [hg]; exact Nat.ne_of_gt (blk_lt BKa.out));
                  have n12_ := Aside0.mk (show gb ≠ gc by rw [hg]; exact Nat.ne_of_lt (blk_lt BKb.out));
                  have n13_ := Aside0.mk (show gc ≠ gb by rw [hg]; exact Nat.ne_of_gt (blk_lt BKb.out));
                  clear HB BKd BKa BKb HOa HOb HOc;
                  have HB := n0_;
                  have BKd := n1_;
                  have BKa := n2_;
                  have BKb := n3_;
                  have HOa := n4_;
                  have HOb := n5_;
                  have HOc := n6_;
                  have GEc := n7_;
                  have Nd_c := n8_;
                  have Nc_d := n9_;
                  have Na_c := n10_;
                  have Nc_a := n11_;
                  have Nb_c := n12_;
                  have Nc_b := n13_;
                  clear n0_ n1_ n2_ n3_ n4_ n5_ n6_ n7_ n8_ n9_ n10_ n11_ n12_ n13_;
                  have BKc := Aside0.mk hbox;
                  clear hg hbox hb;
                  have cc_0 : wd18.cell? ⟨gc, 0, none⟩ = some (.slice none 0 0) := (blk_cell BKc.out 0).trans rfl;
                  have cc_1 : wd18.cell? ⟨gc, 1, none⟩ = some (.bool false) := (blk_cell BKc.out 1).trans rfl;
                  have cc_2 : wd18.cell? ⟨gc, 2, none⟩ = some (.int .i64 0) := (blk_cell BKc.out 2).trans rfl;
                  have cc_3 : wd18.cell? ⟨gc, 3, none⟩ = some (.int .i64 0) := (blk_cell BKc.out 3).trans rfl;
                  have fc_0 := blk_frozen BKc.out 0;
                  have fc_1 := blk_frozen BKc.out 1;
                  have fc_2 := blk_frozen BKc.out 2;
                  have fc_3 := blk_frozen BKc.out 3)
              | fail)
          refine ((disk_Read.calls Ac cc l5 (false) (-1) (-1) (name) (⟨#[]⟩) (7) _ (Kd.R_reads' (R4 HOc.out BKc.out (by decide) _ _ _ _)).2.2 (Kd.R_reads' HOc.out).2.1 h6').mono ?_)
          rintro e wd19 ⟨rfl, hb⟩
          have n0_ := Aside0.mk (below_step (below4 HB.out GEc.out _ _ _ _) hb)
          have n1_ := Aside0.mk (show wd19.heap[gd]? = some (.cells #[(.slice A l.length c), .bool false, .int .i64 (-1), .int .i64 (-1)] 24 (0, 0)) from blk_below (far4 BKd.out Nd_c.out _ _ _ _) hb)
          have n2_ := Aside0.mk (show wd19.heap[ga]? = some (.cells #[.slice Aa l3.length ca, .bool false, .int .i64 (-1), .int .i64 (-1)] 24 (0, 0)) from blk_below (far4 BKa.out Na_c.out _ _ _ _) hb)
          have n3_ := Aside0.mk (show wd19.heap[gb]? = some (.cells #[.slice Ab l4.length cb, .bool false, .int .i64 (-1), .int .i64 (-1)] 24 (0, 0)) from blk_below (far4 BKb.out Nb_c.out _ _ _ _) hb)
          have n4_ := Aside0.mk (show wd19.heap[gc]? = some (.cells #[.slice Ac l5.length cc, .bool false, .int .i64 (-1), .int .i64 (-1)] 24 (0, 0)) from blk_below (put4 BKc.out (.slice Ac l5.length cc) (.bool false) (.int .i64 (-1)) (.int .i64 (-1))) hb)
          have n5_ := Aside0.mk (Kd.R_below (R4 HOa.out BKc.out (by decide) _ _ _ _) hb)
          have n6_ := Aside0.mk (Kd.R_below (R4 HOb.out BKc.out (by decide) _ _ _ _) hb)
          have n7_ := Aside0.mk (Kd.R_below (R4 HOc.out BKc.out (by decide) _ _ _ _) hb)
          clear HB BKd BKa BKb BKc HOa HOb HOc
          clear cc_0 cc_1 cc_2 cc_3 fc_0 fc_1 fc_2 fc_3
          have HB := n0_
          have BKd := n1_
          have BKa := n2_
          have BKb := n3_
          have BKc := n4_
          have HOa := n5_
          have HOb := n6_
          have HOc := n7_
          clear n0_ n1_ n2_ n3_ n4_ n5_ n6_ n7_
          clear hb
          go_wp2_with fail
          go_ret
          exact ⟨by simp [*], HB.out⟩
        ·
          go_wp2_with (first
              | ((with_reducible refine gate_dst (N := 15) rfl ?_);
                  refine box_event ?hg (N := 15) ?hd (cs := #[.slice none 0 0, .bool false, .int .i64 0, .int .i64 0]) (t := 24) ?hr ?_;
                  (case hd => rfl); (case hg => rfl); (case hr => first | (go_simp; done) | (go_simp; rfl));
                  intro gb hg wd20 hbox hb;
                  have n0_ := Aside0.mk (below_step HB.out hb);
                  have n1_ := Aside0.mk (show wd20.heap[gd]? = some (.cells #[(.slice A l.length c), .bool false, .int .i64 (-1), .int .i64 (-1)] 24 (0, 0)) from blk_below BKd.out hb);
                  have n2_ := Aside0.mk (show wd20.heap[ga]? = some (.cells #[.slice Aa l3.length ca, .bool false, .int .i64 (-1), .int .i64 (-1)] 24 (0, 0)) from blk_below BKa.out hb);
                  have n3_ := Aside0.mk (Kd.R_below HOa.out hb);
                  have n4_ := Aside0.mk (Kd.R_below HOb.out hb);
                  have n5_ := Aside0.mk (show w.heap.size ≤ gb by rw [hg]; exact (HB.out).size);
                  have n6_ := Aside0.mk (show gd ≠ gb by rw [hg]; exact Nat.ne_of_lt (blk_lt BKd.out));
                  have n7_ := Aside0.mk (show gb ≠ gd by rw [hg]; exact Nat.ne_of_gt (blk_lt BKd.out));
                  have n8_ := Aside0.mk (show ga ≠ gb by rw [hg]; exact Nat.ne_of_lt (blk_lt BKa.out));
                  have n9_ := Aside0.mk (show gb ≠ ga by rw [hg]; exact Nat.ne_of_gt (blk_lt BKa.out));
                  clear HB BKd BKa HOa HOb;
                  clear cd_0 cd_1 cd_2 cd_3 fd_0 fd_1 fd_2 fd_3;
                  have HB := n0_;
                  have BKd := n1_;
                  have BKa := n2_;
                  have HOa := n3_;
                  have HOb := n4_;
                  have GEb := n5_;
                  have Nd_b := n6_;
                  have Nb_d := n7_;
                  have Na_b := n8_;
                  have Nb_a := n9_;
                  clear n0_ n1_ n2_ n3_ n4_ n5_ n6_ n7_ n8_ n9_;
                  have BKb := Aside0.mk hbox;
                  clear hg hbox hb;
                  have ned_b := Nd_b.out;
                  have neb_d := Nb_d.out;
                  have cd_0 : wd20.cell? ⟨gd, 0, none⟩ = some ((.slice A l.length c)) := (blk_cell BKd.out 0).trans rfl;
                  have cd_1 : wd20.cell? ⟨gd, 1, none⟩ = some (.bool false) := (blk_cell BKd.out 1).trans rfl;
                  have cd_2 : wd20.cell? ⟨gd, 2, none⟩ = some (.int .i64 (-1)) := (blk_cell BKd.out 2).trans rfl;
                  have cd_3 : wd20.cell? ⟨gd, 3, none⟩ = some (.int .i64 (-1)) := (blk_cell BKd.out 3).trans rfl;
                  have cb_0 : wd20.cell? ⟨gb, 0, none⟩ = some (.slice none 0 0) := (blk_cell BKb.out 0).trans rfl;
                  have cb_1 : wd20.cell? ⟨gb, 1, none⟩ = some (.bool false) := (blk_cell BKb.out 1).trans rfl;
                  have cb_2 : wd20.cell? ⟨gb, 2, none⟩ = some (.int .i64 0) := (blk_cell BKb.out 2).trans rfl;
                  have cb_3 : wd20.cell? ⟨gb, 3, none⟩ = some (.int .i64 0) := (blk_cell BKb.out 3).trans rfl;
                  have fb_0 := blk_frozen BKb.out 0;
                  have fb_1 := blk_frozen BKb.out 1;
                  have fb_2 := blk_frozen BKb.out 2;
                  have fb_3 := blk_frozen BKb.out 3)
              | fail)
          obtain ⟨l5, h5, h6⟩ := remove_at hok hx hi hn
          have h6' := disk_Read_eq l5 false (-1) (-1) name
          rw [h6] at h6'
          refine ((disk_Remove.calls A c l (false) (-1) (-1) (name) (l5) (false) (-1) (-1) (0) _ (Kd.C_below HRp.out (below4 HB.out GEb.out _ _ _ _)) HCp.out (by rw [disk_Remove_eq, h5])).mono ?_)
          rintro e wd21 ⟨v, rfl, ho, hb⟩
          have n0_ := Aside0.mk (below_step (below4 HB.out GEb.out _ _ _ _) hb)
          have n1_ := Aside0.mk (show wd21.heap[gd]? = some (.cells #[(.slice A l.length c), .bool false, .int .i64 (-1), .int .i64 (-1)] 24 (0, 0)) from blk_below (far4 BKd.out Nd_b.out _ _ _ _) hb)
          have n2_ := Aside0.mk (show wd21.heap[ga]? = some (.cells #[.slice Aa l3.length ca, .bool false, .int .i64 (-1), .int .i64 (-1)] 24 (0, 0)) from blk_below (far4 BKa.out Na_b.out _ _ _ _) hb)
          have n3_ := Aside0.mk (show wd21.heap[gb]? = some (.cells #[.slice Ab l4.length cb, .bool false, .int .i64 (-1), .int .i64 (-1)] 24 (0, 0)) from blk_below (put4 BKb.out (.slice Ab l4.length cb) (.bool false) (.int .i64 (-1)) (.int .i64 (-1))) hb)
          have n4_ := Aside0.mk (Kd.R_below (R4 HOa.out BKb.out (by decide) _ _ _ _) hb)
          have n5_ := Aside0.mk (Kd.R_below (R4 HOb.out BKb.out (by decide) _ _ _ _) hb)
          have n6_ := Aside0.mk (Kd.R_lower ho ((below4 HB.out GEb.out _ _ _ _)).size)
          clear HB BKd BKa BKb HOa HOb
          clear ned_b neb_d cd_0 cd_1 cd_2 cd_3 cb_0 cb_1 cb_2 cb_3 fb_0 fb_1 fb_2 fb_3
          have HB := n0_
          have BKd := n1_
          have BKa := n2_
          have BKb := n3_
          have HOa := n4_
          have HOb := n5_
          have HOc := n6_
          clear n0_ n1_ n2_ n3_ n4_ n5_ n6_
          obtain ⟨Ac, cc, eo⟩ := Kd.R_slice HOc.out
          subst eo
          clear ho hb
          go_wp2_with (first
              | ((with_reducible refine gate_dst (N := 19) rfl ?_);
                  refine box_event ?hg (N := 19) ?hd (cs := #[.slice none 0 0, .bool false, .int .i64 0, .int .i64 0]) (t := 24) ?hr ?_;
                  (case hd => rfl); (case hg => rfl); (case hr => first | (go_simp; done) | (go_simp; rfl));
                  intro gc hg wd22 hbox hb;
                  have n0_ := Aside0.mk (below_step HB.out hb);
                  have n1_ := Aside0.mk (show wd22.heap[gd]? = some (.cells #[(.slice A l.length c), .bool false, .int .i64 (-1), .int .i64 (-1)] 24 (0, 0)) from blk_below BKd.out hb);
                  have n2_ := Aside0.mk (show wd22.heap[ga]? = some (.cells #[.slice Aa l3.length ca, .bool false, .int .i64 (-1), .int .i64 (-1)] 24 (0, 0)) from blk_below BKa.out hb);
                  have n3_ := Aside0.mk (show wd22.heap[gb]? = some (.cells #[.slice Ab l4.length cb, .bool false, .int .i64 (-1), .int .i64 (-1)] 24 (0, 0)) from blk_below BKb.out hb);
                  have n4_ := Aside0.mk (Kd.R_below HOa.out hb);
                  have n5_ := Aside0.mk (Kd.R_below HOb.out hb);
                  have n6_ := Aside0.mk (Kd.R_below HOc.out hb);
                  have n7_ := Aside0.mk (show w.heap.size ≤ gc by rw [hg]; exact (HB.out).size);
                  have n8_ := Aside0.mk (show gd ≠ gc by rw [hg]; exact Nat.ne_of_lt (blk_lt BKd.out));
                  have n9_ := Aside0.mk (show gc ≠ gd by rw [hg]; exact Nat.ne_of_gt (blk_lt BKd.out));
                  have n10_ := Aside0.mk (show ga ≠ gc by rw [hg]; exact Nat.ne_of_lt (blk_lt BKa.out));
                  have n11_ := Aside0.mk (show gc ≠ ga by rw [hg]; exact Nat.ne_of_gt (blk_lt BKa.out));
                  have n12_ := Aside0.mk (show gb ≠ gc by rw [hg]; exact Nat.ne_of_lt (blk_lt BKb.out));
                  have n13_ := Aside0.mk (show gc ≠ gb by rw [hg]; exact Nat.ne_of_gt (blk_lt BKb.out));
                  clear HB BKd BKa BKb HOa HOb HOc;
                  have HB := n0_;
                  have BKd := n1_;
                  have BKa := n2_;
                  have BKb := n3_;
                  have HOa := n4_;
                  have HOb := n5_;
                  have HOc := n6_;
                  have GEc := n7_;
                  have Nd_c := n8_;
                  have Nc_d := n9_;
                  have Na_c := n10_;
                  have Nc_a := n11_;
                  have Nb_c := n12_;
                  have Nc_b := n13_;
                  clear n0_ n1_ n2_ n3_ n4_ n5_ n6_ n7_ n8_ n9_ n10_ n11_ n12_ n13_;
                  have BKc := Aside0.mk hbox;
                  clear hg hbox hb;
                  have cc_0 : wd22.cell? ⟨gc, 0, none⟩ = some (.slice none 0 0) := (blk_cell BKc.out 0).trans rfl;
                  have cc_1 : wd22.cell? ⟨gc, 1, none⟩ = some (.bool false) := (blk_cell BKc.out 1).trans rfl;
                  have cc_2 : wd22.cell? ⟨gc, 2, none⟩ = some (.int .i64 0) := (blk_cell BKc.out 2).trans rfl;
                  have cc_3 : wd22.cell? ⟨gc, 3, none⟩ = some (.int .i64 0) := (blk_cell BKc.out 3).trans rfl;
                  have fc_0 := blk_frozen BKc.out 0;
                  have fc_1 := blk_frozen BKc.out 1;
                  have fc_2 := blk_frozen BKc.out 2;
                  have fc_3 := blk_frozen BKc.out 3)
              | fail)
          refine ((disk_Read.calls Ac cc l5 (false) (-1) (-1) (name) (⟨#[]⟩) (7) _ (Kd.R_reads' (R4 HOc.out BKc.out (by decide) _ _ _ _)).2.2 (Kd.R_reads' HOc.out).2.1 h6').mono ?_)
          rintro e wd23 ⟨rfl, hb⟩
          have n0_ := Aside0.mk (below_step (below4 HB.out GEc.out _ _ _ _) hb)
          have n1_ := Aside0.mk (show wd23.heap[gd]? = some (.cells #[(.slice A l.length c), .bool false, .int .i64 (-1), .int .i64 (-1)] 24 (0, 0)) from blk_below (far4 BKd.out Nd_c.out _ _ _ _) hb)
          have n2_ := Aside0.mk (show wd23.heap[ga]? = some (.cells #[.slice Aa l3.length ca, .bool false, .int .i64 (-1), .int .i64 (-1)] 24 (0, 0)) from blk_below (far4 BKa.out Na_c.out _ _ _ _) hb)
          have n3_ := Aside0.mk (show wd23.heap[gb]? = some (.cells #[.slice Ab l4.length cb, .bool false, .int .i64 (-1), .int .i64 (-1)] 24 (0, 0)) from blk_below (far4 BKb.out Nb_c.out _ _ _ _) hb)
          have n4_ := Aside0.mk (show wd23.heap[gc]? = some (.cells #[.slice Ac l5.length cc, .bool false, .int .i64 (-1), .int .i64 (-1)] 24 (0, 0)) from blk_below (put4 BKc.out (.slice Ac l5.length cc) (.bool false) (.int .i64 (-1)) (.int .i64 (-1))) hb)
          have n5_ := Aside0.mk (Kd.R_below (R4 HOa.out BKc.out (by decide) _ _ _ _) hb)
          have n6_ := Aside0.mk (Kd.R_below (R4 HOb.out BKc.out (by decide) _ _ _ _) hb)
          have n7_ := Aside0.mk (Kd.R_below (R4 HOc.out BKc.out (by decide) _ _ _ _) hb)
          clear HB BKd BKa BKb BKc HOa HOb HOc
          clear cc_0 cc_1 cc_2 cc_3 fc_0 fc_1 fc_2 fc_3
          have HB := n0_
          have BKd := n1_
          have BKa := n2_
          have BKb := n3_
          have BKc := n4_
          have HOa := n5_
          have HOb := n6_
          have HOc := n7_
          clear n0_ n1_ n2_ n3_ n4_ n5_ n6_ n7_
          clear hb
          go_wp2_with fail
          go_ret
          exact ⟨by simp [*], HB.out⟩
    · have e := HAP.out
      rw [h1] at e
      simp only [Prod.mk.injEq] at e
      obtain ⟨rfl, rfl, rfl, rfl, rfl⟩ := e
      by_cases hs : 0 ≤ size ∧ size ≤ (x.f1.size : Int)
      · obtain ⟨hs0, hs1⟩ := hs
        obtain ⟨l4, h3, h4⟩ := cut_at hok hx hi hn size hs0 hs1
        have h4' := disk_Read_eq l4 false (-1) (-1) name
        rw [h4] at h4'
        go_wp2_with (first
            | ((with_reducible refine gate_dst (N := 11) rfl ?_);
                refine box_event ?hg (N := 11) ?hd (cs := #[.slice none 0 0, .bool false, .int .i64 0, .int .i64 0]) (t := 24) ?hr ?_;
                (case hd => rfl); (case hg => rfl); (case hr => first | (go_simp; done) | (go_simp; rfl));
                intro ga hg wd24 hbox hb;
                have n0_ := Aside0.mk (below_step HB.out hb);
                have n1_ := Aside0.mk (show wd24.heap[gd]? = some (.cells #[(.slice A l.length c), .bool false, .int .i64 (-1), .int .i64 (-1)] 24 (0, 0)) from blk_below BKd.out hb);
                have n2_ := Aside0.mk (Kd.R_below HOa.out hb);
                have n3_ := Aside0.mk (show w.heap.size ≤ ga by rw [hg]; exact (HB.out).size);
                have n4_ := Aside0.mk (show gd ≠ ga by rw [hg]; exact Nat.ne_of_lt (blk_lt BKd.out));
                have n5_ := Aside0.mk (show ga ≠ gd by rw [hg]; exact Nat.ne_of_gt (blk_lt BKd.out));
                clear HB BKd HOa;
                have HB := n0_;
                have BKd := n1_;
                have HOa := n2_;
                have GEa := n3_;
                have Nd_a := n4_;
                have Na_d := n5_;
                clear n0_ n1_ n2_ n3_ n4_ n5_;
                have BKa := Aside0.mk hbox;
                clear hg hbox hb;
                have ned_a := Nd_a.out;
                have nea_d := Na_d.out;
                have cd_0 : wd24.cell? ⟨gd, 0, none⟩ = some ((.slice A l.length c)) := (blk_cell BKd.out 0).trans rfl;
                have cd_1 : wd24.cell? ⟨gd, 1, none⟩ = some (.bool false) := (blk_cell BKd.out 1).trans rfl;
                have cd_2 : wd24.cell? ⟨gd, 2, none⟩ = some (.int .i64 (-1)) := (blk_cell BKd.out 2).trans rfl;
                have cd_3 : wd24.cell? ⟨gd, 3, none⟩ = some (.int .i64 (-1)) := (blk_cell BKd.out 3).trans rfl;
                have ca_0 : wd24.cell? ⟨ga, 0, none⟩ = some (.slice none 0 0) := (blk_cell BKa.out 0).trans rfl;
                have ca_1 : wd24.cell? ⟨ga, 1, none⟩ = some (.bool false) := (blk_cell BKa.out 1).trans rfl;
                have ca_2 : wd24.cell? ⟨ga, 2, none⟩ = some (.int .i64 0) := (blk_cell BKa.out 2).trans rfl;
                have ca_3 : wd24.cell? ⟨ga, 3, none⟩ = some (.int .i64 0) := (blk_cell BKa.out 3).trans rfl;
                have fa_0 := blk_frozen BKa.out 0;
                have fa_1 := blk_frozen BKa.out 1;
                have fa_2 := blk_frozen BKa.out 2;
                have fa_3 := blk_frozen BKa.out 3)
            | fail)
        refine ((disk_Cut.calls A c l (false) (-1) (-1) (name) (size) (l4) (false) (-1) (-1) (0) _ (Kd.C_below HRp.out (below4 HB.out GEa.out _ _ _ _)) HCp.out (by rw [disk_Cut_eq, h3])).mono ?_)
        rintro e wd25 ⟨v, rfl, ho, hb⟩
        have n0_ := Aside0.mk (below_step (below4 HB.out GEa.out _ _ _ _) hb)
        have n1_ := Aside0.mk (show wd25.heap[gd]? = some (.cells #[(.slice A l.length c), .bool false, .int .i64 (-1), .int .i64 (-1)] 24 (0, 0)) from blk_below (far4 BKd.out Nd_a.out _ _ _ _) hb)
        have n2_ := Aside0.mk (show wd25.heap[ga]? = some (.cells #[.slice Aa l3.length ca, .bool false, .int .i64 (-1), .int .i64 (-1)] 24 (0, 0)) from blk_below (put4 BKa.out (.slice Aa l3.length ca) (.bool false) (.int .i64 (-1)) (.int .i64 (-1))) hb)
        have n3_ := Aside0.mk (Kd.R_below (R4 HOa.out BKa.out (by decide) _ _ _ _) hb)
        have n4_ := Aside0.mk (Kd.R_lower ho ((below4 HB.out GEa.out _ _ _ _)).size)
        clear HB BKd BKa HOa
        clear ned_a nea_d cd_0 cd_1 cd_2 cd_3 ca_0 ca_1 ca_2 ca_3 fa_0 fa_1 fa_2 fa_3
        have HB := n0_
        have BKd := n1_
        have BKa := n2_
        have HOa := n3_
        have HOb := n4_
        clear n0_ n1_ n2_ n3_ n4_
        obtain ⟨Ab, cb, eo⟩ := Kd.R_slice HOb.out
        subst eo
        clear ho hb
        have cd_0 : wd25.cell? ⟨gd, 0, none⟩ = some ((.slice A l.length c)) := (blk_cell BKd.out 0).trans rfl
        have cd_1 : wd25.cell? ⟨gd, 1, none⟩ = some (.bool false) := (blk_cell BKd.out 1).trans rfl
        have cd_2 : wd25.cell? ⟨gd, 2, none⟩ = some (.int .i64 (-1)) := (blk_cell BKd.out 2).trans rfl
        have cd_3 : wd25.cell? ⟨gd, 3, none⟩ = some (.int .i64 (-1)) := (blk_cell BKd.out 3).trans rfl
        have fd_0 := blk_frozen BKd.out 0
        have fd_1 := blk_frozen BKd.out 1
        have fd_2 := blk_frozen BKd.out 2
        have fd_3 := blk_frozen BKd.out 3
        go_wp2_with (first
            | ((with_reducible refine gate_dst (N := 15) rfl ?_);
                refine box_event ?hg (N := 15) ?hd (cs := #[.slice none 0 0, .bool false, .int .i64 0, .int .i64 0]) (t := 24) ?hr ?_;
                (case hd => rfl); (case hg => rfl); (case hr => first | (go_simp; done) | (go_simp; rfl));
                intro gb hg wd26 hbox hb;
                have n0_ := Aside0.mk (below_step HB.out hb);
                have n1_ := Aside0.mk (show wd26.heap[gd]? = some (.cells #[(.slice A l.length c), .bool false, .int .i64 (-1), .int .i64 (-1)] 24 (0, 0)) from blk_below BKd.out hb);
                have n2_ := Aside0.mk (show wd26.heap[ga]? = some (.cells #[.slice Aa l3.length ca, .bool false, .int .i64 (-1), .int .i64 (-1)] 24 (0, 0)) from blk_below BKa.out hb);
                have n3_ := Aside0.mk (Kd.R_below HOa.out hb);
                have n4_ := Aside0.mk (Kd.R_below HOb.out hb);
                have n5_ := Aside0.mk (show w.heap.size ≤ gb by rw [hg]; exact (HB.out).size);
                have n6_ := Aside0.mk (show gd ≠ gb by rw [hg]; exact Nat.ne_of_lt (blk_lt BKd.out));
                have n7_ := Aside0.mk (show gb ≠ gd by rw [hg]; exact Nat.ne_of_gt (blk_lt BKd.out));
                have n8_ := Aside0.mk (show ga ≠ gb by rw [hg]; exact Nat.ne_of_lt (blk_lt BKa.out));
                have n9_ := Aside0.mk (show gb ≠ ga by rw [hg]; exact Nat.ne_of_gt (blk_lt BKa.out));
                clear HB BKd BKa HOa HOb;
                clear cd_0 cd_1 cd_2 cd_3 fd_0 fd_1 fd_2 fd_3;
                have HB := n0_;
                have BKd := n1_;
                have BKa := n2_;
                have HOa := n3_;
                have HOb := n4_;
                have GEb := n5_;
                have Nd_b := n6_;
                have Nb_d := n7_;
                have Na_b := n8_;
                have Nb_a := n9_;
                clear n0_ n1_ n2_ n3_ n4_ n5_ n6_ n7_ n8_ n9_;
                have BKb := Aside0.mk hbox;
                clear hg hbox hb;
                have ned_b := Nd_b.out;
                have neb_d := Nb_d.out;
                have cd_0 : wd26.cell? ⟨gd, 0, none⟩ = some ((.slice A l.length c)) := (blk_cell BKd.out 0).trans rfl;
                have cd_1 : wd26.cell? ⟨gd, 1, none⟩ = some (.bool false) := (blk_cell BKd.out 1).trans rfl;
                have cd_2 : wd26.cell? ⟨gd, 2, none⟩ = some (.int .i64 (-1)) := (blk_cell BKd.out 2).trans rfl;
                have cd_3 : wd26.cell? ⟨gd, 3, none⟩ = some (.int .i64 (-1)) := (blk_cell BKd.out 3).trans rfl;
                have cb_0 : wd26.cell? ⟨gb, 0, none⟩ = some (.slice none 0 0) := (blk_cell BKb.out 0).trans rfl;
                have cb_1 : wd26.cell? ⟨gb, 1, none⟩ = some (.bool false) := (blk_cell BKb.out 1).trans rfl;
                have cb_2 : wd26.cell? ⟨gb, 2, none⟩ = some (.int .i64 0) := (blk_cell BKb.out 2).trans rfl;
                have cb_3 : wd26.cell? ⟨gb, 3, none⟩ = some (.int .i64 0) := (blk_cell BKb.out 3).trans rfl;
                have fb_0 := blk_frozen BKb.out 0;
                have fb_1 := blk_frozen BKb.out 1;
                have fb_2 := blk_frozen BKb.out 2;
                have fb_3 := blk_frozen BKb.out 3)
            | fail)
        refine ((disk_Read.calls Ab cb l4 (false) (-1) (-1) (name) ((x.f1.extract 0 size.toNat)) (0) _ (Kd.R_reads' (R4 HOb.out BKb.out (by decide) _ _ _ _)).2.2 (Kd.R_reads' HOb.out).2.1 h4').mono ?_)
        rintro e wd27 ⟨rfl, hb⟩
        have n0_ := Aside0.mk (below_step (below4 HB.out GEb.out _ _ _ _) hb)
        have n1_ := Aside0.mk (show wd27.heap[gd]? = some (.cells #[(.slice A l.length c), .bool false, .int .i64 (-1), .int .i64 (-1)] 24 (0, 0)) from blk_below (far4 BKd.out Nd_b.out _ _ _ _) hb)
        have n2_ := Aside0.mk (show wd27.heap[ga]? = some (.cells #[.slice Aa l3.length ca, .bool false, .int .i64 (-1), .int .i64 (-1)] 24 (0, 0)) from blk_below (far4 BKa.out Na_b.out _ _ _ _) hb)
        have n3_ := Aside0.mk (show wd27.heap[gb]? = some (.cells #[.slice Ab l4.length cb, .bool false, .int .i64 (-1), .int .i64 (-1)] 24 (0, 0)) from blk_below (put4 BKb.out (.slice Ab l4.length cb) (.bool false) (.int .i64 (-1)) (.int .i64 (-1))) hb)
        have n4_ := Aside0.mk (Kd.R_below (R4 HOa.out BKb.out (by decide) _ _ _ _) hb)
        have n5_ := Aside0.mk (Kd.R_below (R4 HOb.out BKb.out (by decide) _ _ _ _) hb)
        clear HB BKd BKa BKb HOa HOb
        clear ned_b neb_d cd_0 cd_1 cd_2 cd_3 cb_0 cb_1 cb_2 cb_3 fb_0 fb_1 fb_2 fb_3
        have HB := n0_
        have BKd := n1_
        have BKa := n2_
        have BKb := n3_
        have HOa := n4_
        have HOb := n5_
        clear n0_ n1_ n2_ n3_ n4_ n5_
        clear hb
        have cd_0 : wd27.cell? ⟨gd, 0, none⟩ = some ((.slice A l.length c)) := (blk_cell BKd.out 0).trans rfl
        have cd_1 : wd27.cell? ⟨gd, 1, none⟩ = some (.bool false) := (blk_cell BKd.out 1).trans rfl
        have cd_2 : wd27.cell? ⟨gd, 2, none⟩ = some (.int .i64 (-1)) := (blk_cell BKd.out 2).trans rfl
        have cd_3 : wd27.cell? ⟨gd, 3, none⟩ = some (.int .i64 (-1)) := (blk_cell BKd.out 3).trans rfl
        go_wp2_with fail
        obtain ⟨l5, h5, h6⟩ := remove_at hok hx hi hn
        have h6' := disk_Read_eq l5 false (-1) (-1) name
        rw [h6] at h6'
        refine ((disk_Remove.calls A c l (false) (-1) (-1) (name) (l5) (false) (-1) (-1) (0) _ (Kd.C_below HRp.out HB.out) HCp.out (by rw [disk_Remove_eq, h5])).mono ?_)
        rintro e wd28 ⟨v, rfl, ho, hb⟩
        have n0_ := Aside0.mk (below_step HB.out hb)
        have n1_ := Aside0.mk (show wd28.heap[gd]? = some (.cells #[(.slice A l.length c), .bool false, .int .i64 (-1), .int .i64 (-1)] 24 (0, 0)) from blk_below BKd.out hb)
        have n2_ := Aside0.mk (show wd28.heap[ga]? = some (.cells #[.slice Aa l3.length ca, .bool false, .int .i64 (-1), .int .i64 (-1)] 24 (0, 0)) from blk_below BKa.out hb)
        have n3_ := Aside0.mk (show wd28.heap[gb]? = some (.cells #[.slice Ab l4.length cb, .bool false, .int .i64 (-1), .int .i64 (-1)] 24 (0, 0)) from blk_below BKb.out hb)
        have n4_ := Aside0.mk (Kd.R_below HOa.out hb)
        have n5_ := Aside0.mk (Kd.R_below HOb.out hb)
        have n6_ := Aside0.mk (Kd.R_lower ho (HB.out).size)
        clear HB BKd BKa BKb HOa HOb
        clear cd_0 cd_1 cd_2 cd_3
        have HB := n0_
        have BKd := n1_
        have BKa := n2_
        have BKb := n3_
        have HOa := n4_
        have HOb := n5_
        have HOc := n6_
        clear n0_ n1_ n2_ n3_ n4_ n5_ n6_
        obtain ⟨Ac, cc, eo⟩ := Kd.R_slice HOc.out
        subst eo
        clear ho hb
        go_wp2_with (first
            | ((with_reducible refine gate_dst (N := 19) rfl ?_);
                refine box_event ?hg (N := 19) ?hd (cs := #[.slice none 0 0, .bool false, .int .i64 0, .int .i64 0]) (t := 24) ?hr ?_;
                (case hd => rfl); (case hg => rfl); (case hr => first | (go_simp; done) | (go_simp; rfl));
                intro gc hg wd29 hbox hb;
                have n0_ := Aside0.mk (below_step HB.out hb);
                have n1_ := Aside0.mk (show wd29.heap[gd]? = some (.cells #[(.slice A l.length c), .bool false, .int .i64 (-1), .int .i64 (-1)] 24 (0, 0)) from blk_below BKd.out hb);
                have n2_ := Aside0.mk (show wd29.heap[ga]? = some (.cells #[.slice Aa l3.length ca, .bool false, .int .i64 (-1), .int .i64 (-1)] 24 (0, 0)) from blk_below BKa.out hb);
                have n3_ := Aside0.mk (show wd29.heap[gb]? = some (.cells #[.slice Ab l4.length cb, .bool false, .int .i64 (-1), .int .i64 (-1)] 24 (0, 0)) from blk_below BKb.out hb);
                have n4_ := Aside0.mk (Kd.R_below HOa.out hb);
                have n5_ := Aside0.mk (Kd.R_below HOb.out hb);
                have n6_ := Aside0.mk (Kd.R_below HOc.out hb);
                have n7_ := Aside0.mk (show w.heap.size ≤ gc by rw [hg]; exact (HB.out).size);
                have n8_ := Aside0.mk (show gd ≠ gc by rw [hg]; exact Nat.ne_of_lt (blk_lt BKd.out));
                have n9_ := Aside0.mk (show gc ≠ gd by rw [hg]; exact Nat.ne_of_gt (blk_lt BKd.out));
                have n10_ := Aside0.mk (show ga ≠ gc by rw [hg]; exact Nat.ne_of_lt (blk_lt BKa.out));
                have n11_ := Aside0.mk (show gc ≠ ga by rw [hg]; exact Nat.ne_of_gt (blk_lt BKa.out));
                have n12_ := Aside0.mk (show gb ≠ gc by rw [hg]; exact Nat.ne_of_lt (blk_lt BKb.out));
                have n13_ := Aside0.mk (show gc ≠ gb by rw [hg]; exact Nat.ne_of_gt (blk_lt BKb.out));
                clear HB BKd BKa BKb HOa HOb HOc;
                have HB := n0_;
                have BKd := n1_;
                have BKa := n2_;
                have BKb := n3_;
                have HOa := n4_;
                have HOb := n5_;
                have HOc := n6_;
                have GEc := n7_;
                have Nd_c := n8_;
                have Nc_d := n9_;
                have Na_c := n10_;
                have Nc_a := n11_;
                have Nb_c := n12_;
                have Nc_b := n13_;
                clear n0_ n1_ n2_ n3_ n4_ n5_ n6_ n7_ n8_ n9_ n10_ n11_ n12_ n13_;
                have BKc := Aside0.mk hbox;
                clear hg hbox hb;
                have cc_0 : wd29.cell? ⟨gc, 0, none⟩ = some (.slice none 0 0) := (blk_cell BKc.out 0).trans rfl;
                have cc_1 : wd29.cell? ⟨gc, 1, none⟩ = some (.bool false) := (blk_cell BKc.out 1).trans rfl;
                have cc_2 : wd29.cell? ⟨gc, 2, none⟩ = some (.int .i64 0) := (blk_cell BKc.out 2).trans rfl;
                have cc_3 : wd29.cell? ⟨gc, 3, none⟩ = some (.int .i64 0) := (blk_cell BKc.out 3).trans rfl;
                have fc_0 := blk_frozen BKc.out 0;
                have fc_1 := blk_frozen BKc.out 1;
                have fc_2 := blk_frozen BKc.out 2;
                have fc_3 := blk_frozen BKc.out 3)
            | fail)
        refine ((disk_Read.calls Ac cc l5 (false) (-1) (-1) (name) (⟨#[]⟩) (7) _ (Kd.R_reads' (R4 HOc.out BKc.out (by decide) _ _ _ _)).2.2 (Kd.R_reads' HOc.out).2.1 h6').mono ?_)
        rintro e wd30 ⟨rfl, hb⟩
        have n0_ := Aside0.mk (below_step (below4 HB.out GEc.out _ _ _ _) hb)
        have n1_ := Aside0.mk (show wd30.heap[gd]? = some (.cells #[(.slice A l.length c), .bool false, .int .i64 (-1), .int .i64 (-1)] 24 (0, 0)) from blk_below (far4 BKd.out Nd_c.out _ _ _ _) hb)
        have n2_ := Aside0.mk (show wd30.heap[ga]? = some (.cells #[.slice Aa l3.length ca, .bool false, .int .i64 (-1), .int .i64 (-1)] 24 (0, 0)) from blk_below (far4 BKa.out Na_c.out _ _ _ _) hb)
        have n3_ := Aside0.mk (show wd30.heap[gb]? = some (.cells #[.slice Ab l4.length cb, .bool false, .int .i64 (-1), .int .i64 (-1)] 24 (0, 0)) from blk_below (far4 BKb.out Nb_c.out _ _ _ _) hb)
        have n4_ := Aside0.mk (show wd30.heap[gc]? = some (.cells #[.slice Ac l5.length cc, .bool false, .int .i64 (-1), .int .i64 (-1)] 24 (0, 0)) from blk_below (put4 BKc.out (.slice Ac l5.length cc) (.bool false) (.int .i64 (-1)) (.int .i64 (-1))) hb)
        have n5_ := Aside0.mk (Kd.R_below (R4 HOa.out BKc.out (by decide) _ _ _ _) hb)
        have n6_ := Aside0.mk (Kd.R_below (R4 HOb.out BKc.out (by decide) _ _ _ _) hb)
        have n7_ := Aside0.mk (Kd.R_below (R4 HOc.out BKc.out (by decide) _ _ _ _) hb)
        clear HB BKd BKa BKb BKc HOa HOb HOc
        clear cc_0 cc_1 cc_2 cc_3 fc_0 fc_1 fc_2 fc_3
        have HB := n0_
        have BKd := n1_
        have BKa := n2_
        have BKb := n3_
        have BKc := n4_
        have HOa := n5_
        have HOb := n6_
        have HOc := n7_
        clear n0_ n1_ n2_ n3_ n4_ n5_ n6_ n7_
        clear hb
        go_wp2_with fail
        go_ret
        exact ⟨by simp [*], HB.out⟩
      · obtain ⟨l4, h3⟩ := cut_not hok hx hi hn size (by omega)
        go_wp2_with (first
            | ((with_reducible refine gate_dst (N := 11) rfl ?_);
                refine box_event ?hg (N := 11) ?hd (cs := #[.slice none 0 0, .bool false, .int .i64 0, .int .i64 0]) (t := 24) ?hr ?_;
                (case hd => rfl); (case hg => rfl); (case hr => first | (go_simp; done) | (go_simp; rfl));
                intro ga hg wd31 hbox hb;
                have n0_ := Aside0.mk (below_step HB.out hb);
                have n1_ := Aside0.mk (show wd31.heap[gd]? = some (.cells #[(.slice A l.length c), .bool false, .int .i64 (-1), .int .i64 (-1)] 24 (0, 0)) from blk_below BKd.out hb);
                have n2_ := Aside0.mk (Kd.R_below HOa.out hb);
                have n3_ := Aside0.mk (show w.heap.size ≤ ga by rw [hg]; exact (HB.out).size);
                have n4_ := Aside0.mk (show gd ≠ ga by rw [hg]; exact Nat.ne_of_lt (blk_lt BKd.out));
                have n5_ := Aside0.mk (show ga ≠ gd by rw [hg]; exact Nat.ne_of_gt (blk_lt BKd.out));
                clear HB BKd HOa;
                have HB := n0_;
                have BKd := n1_;
                have HOa := n2_;
                have GEa := n3_;
                have Nd_a := n4_;
                have Na_d := n5_;
                clear n0_ n1_ n2_ n3_ n4_ n5_;
                have BKa := Aside0.mk hbox;
                clear hg hbox hb;
                have ned_a := Nd_a.out;
                have nea_d := Na_d.out;
                have cd_0 : wd31.cell? ⟨gd, 0, none⟩ = some ((.slice A l.length c)) := (blk_cell BKd.out 0).trans rfl;
                have cd_1 : wd31.cell? ⟨gd, 1, none⟩ = some (.bool false) := (blk_cell BKd.out 1).trans rfl;
                have cd_2 : wd31.cell? ⟨gd, 2, none⟩ = some (.int .i64 (-1)) := (blk_cell BKd.out 2).trans rfl;
                have cd_3 : wd31.cell? ⟨gd, 3, none⟩ = some (.int .i64 (-1)) := (blk_cell BKd.out 3).trans rfl;
                have ca_0 : wd31.cell? ⟨ga, 0, none⟩ = some (.slice none 0 0) := (blk_cell BKa.out 0).trans rfl;
                have ca_1 : wd31.cell? ⟨ga, 1, none⟩ = some (.bool false) := (blk_cell BKa.out 1).trans rfl;
                have ca_2 : wd31.cell? ⟨ga, 2, none⟩ = some (.int .i64 0) := (blk_cell BKa.out 2).trans rfl;
                have ca_3 : wd31.cell? ⟨ga, 3, none⟩ = some (.int .i64 0) := (blk_cell BKa.out 3).trans rfl;
                have fa_0 := blk_frozen BKa.out 0;
                have fa_1 := blk_frozen BKa.out 1;
                have fa_2 := blk_frozen BKa.out 2;
                have fa_3 := blk_frozen BKa.out 3)
            | fail)
        refine ((disk_Cut.calls A c l (false) (-1) (-1) (name) (size) (l4) (false) (-1) (-1) (2) _ (Kd.C_below HRp.out (below4 HB.out GEa.out _ _ _ _)) HCp.out (by rw [disk_Cut_eq, h3])).mono ?_)
        rintro e wd32 ⟨v, rfl, ho, hb⟩
        have n0_ := Aside0.mk (below_step (below4 HB.out GEa.out _ _ _ _) hb)
        have n1_ := Aside0.mk (show wd32.heap[gd]? = some (.cells #[(.slice A l.length c), .bool false, .int .i64 (-1), .int .i64 (-1)] 24 (0, 0)) from blk_below (far4 BKd.out Nd_a.out _ _ _ _) hb)
        have n2_ := Aside0.mk (show wd32.heap[ga]? = some (.cells #[.slice Aa l3.length ca, .bool false, .int .i64 (-1), .int .i64 (-1)] 24 (0, 0)) from blk_below (put4 BKa.out (.slice Aa l3.length ca) (.bool false) (.int .i64 (-1)) (.int .i64 (-1))) hb)
        have n3_ := Aside0.mk (Kd.R_below (R4 HOa.out BKa.out (by decide) _ _ _ _) hb)
        have n4_ := Aside0.mk (Kd.R_lower ho ((below4 HB.out GEa.out _ _ _ _)).size)
        clear HB BKd BKa HOa
        clear ned_a nea_d cd_0 cd_1 cd_2 cd_3 ca_0 ca_1 ca_2 ca_3 fa_0 fa_1 fa_2 fa_3
        have HB := n0_
        have BKd := n1_
        have BKa := n2_
        have HOa := n3_
        have HOb := n4_
        clear n0_ n1_ n2_ n3_ n4_
        obtain ⟨Ab, cb, eo⟩ := Kd.R_slice HOb.out
        subst eo
        clear ho hb
        have cd_0 : wd32.cell? ⟨gd, 0, none⟩ = some ((.slice A l.length c)) := (blk_cell BKd.out 0).trans rfl
        have cd_1 : wd32.cell? ⟨gd, 1, none⟩ = some (.bool false) := (blk_cell BKd.out 1).trans rfl
        have cd_2 : wd32.cell? ⟨gd, 2, none⟩ = some (.int .i64 (-1)) := (blk_cell BKd.out 2).trans rfl
        have cd_3 : wd32.cell? ⟨gd, 3, none⟩ = some (.int .i64 (-1)) := (blk_cell BKd.out 3).trans rfl
        have fd_0 := blk_frozen BKd.out 0
        have fd_1 := blk_frozen BKd.out 1
        have fd_2 := blk_frozen BKd.out 2
        have fd_3 := blk_frozen BKd.out 3
        have hs' : size < 0 ∨ (0 ≤ size ∧ (x.f1.size : Int) < size) := by omega
        clear hs
        rcases hs' with hs | ⟨hs0, hs1⟩
        ·
          go_wp2_with (first
              | ((with_reducible refine gate_dst (N := 15) rfl ?_);
                  refine box_event ?hg (N := 15) ?hd (cs := #[.slice none 0 0, .bool false, .int .i64 0, .int .i64 0]) (t := 24) ?hr ?_;
                  (case hd => rfl); (case hg => rfl); (case hr => first | (go_simp; done) | (go_simp; rfl));
                  intro gb hg wd33 hbox hb;
                  have n0_ := Aside0.mk (below_step HB.out hb);
                  have n1_ := Aside0.mk (show wd33.heap[gd]? = some (.cells #[(.slice A l.length c), .bool false, .int .i64 (-1), .int .i64 (-1)] 24 (0, 0)) from blk_below BKd.out hb);
                  have n2_ := Aside0.mk (show wd33.heap[ga]? = some (.cells #[.slice Aa l3.length ca, .bool false, .int .i64 (-1), .int .i64 (-1)] 24 (0, 0)) from blk_below BKa.out hb);
                  have n3_ := Aside0.mk (Kd.R_below HOa.out hb);
                  have n4_ := Aside0.mk (Kd.R_below HOb.out hb);
                  have n5_ := Aside0.mk (show w.heap.size ≤ gb by rw [hg]; exact (HB.out).size);
                  have n6_ := Aside0.mk (show gd ≠ gb by rw [hg]; exact Nat.ne_of_lt (blk_lt BKd.out));
                  have n7_ := Aside0.mk (show gb ≠ gd by rw [hg]; exact Nat.ne_of_gt (blk_lt BKd.out));
                  have n8_ := Aside0.mk (show ga ≠ gb by rw [hg]; exact Nat.ne_of_lt (blk_lt BKa.out));
                  have n9_ := Aside0.mk (show gb ≠ ga by rw [hg]; exact Nat.ne_of_gt (blk_lt BKa.out));
                  clear HB BKd BKa HOa HOb;
                  clear cd_0 cd_1 cd_2 cd_3 fd_0 fd_1 fd_2 fd_3;
                  have HB := n0_;
                  have BKd := n1_;
                  have BKa := n2_;
                  have HOa := n3_;
                  have HOb := n4_;
                  have GEb := n5_;
                  have Nd_b := n6_;
                  have Nb_d := n7_;
                  have Na_b := n8_;
                  have Nb_a := n9_;
                  clear n0_ n1_ n2_ n3_ n4_ n5_ n6_ n7_ n8_ n9_;
                  have BKb := Aside0.mk hbox;
                  clear hg hbox hb;
                  have ned_b := Nd_b.out;
                  have neb_d := Nb_d.out;
                  have cd_0 : wd33.cell? ⟨gd, 0, none⟩ = some ((.slice A l.length c)) := (blk_cell BKd.out 0).trans rfl;
                  have cd_1 : wd33.cell? ⟨gd, 1, none⟩ = some (.bool false) := (blk_cell BKd.out 1).trans rfl;
                  have cd_2 : wd33.cell? ⟨gd, 2, none⟩ = some (.int .i64 (-1)) := (blk_cell BKd.out 2).trans rfl;
                  have cd_3 : wd33.cell? ⟨gd, 3, none⟩ = some (.int .i64 (-1)) := (blk_cell BKd.out 3).trans rfl;
                  have cb_0 : wd33.cell? ⟨gb, 0, none⟩ = some (.slice none 0 0) := (blk_cell BKb.out 0).trans rfl;
                  have cb_1 : wd33.cell? ⟨gb, 1, none⟩ = some (.bool false) := (blk_cell BKb.out 1).trans rfl;
                  have cb_2 : wd33.cell? ⟨gb, 2, none⟩ = some (.int .i64 0) := (blk_cell BKb.out 2).trans rfl;
                  have cb_3 : wd33.cell? ⟨gb, 3, none⟩ = some (.int .i64 0) := (blk_cell BKb.out 3).trans rfl;
                  have fb_0 := blk_frozen BKb.out 0;
                  have fb_1 := blk_frozen BKb.out 1;
                  have fb_2 := blk_frozen BKb.out 2;
                  have fb_3 := blk_frozen BKb.out 3)
              | fail)
          obtain ⟨l5, h5, h6⟩ := remove_at hok hx hi hn
          have h6' := disk_Read_eq l5 false (-1) (-1) name
          rw [h6] at h6'
          refine ((disk_Remove.calls A c l (false) (-1) (-1) (name) (l5) (false) (-1) (-1) (0) _ (Kd.C_below HRp.out (below4 HB.out GEb.out _ _ _ _)) HCp.out (by rw [disk_Remove_eq, h5])).mono ?_)
          rintro e wd34 ⟨v, rfl, ho, hb⟩
          have n0_ := Aside0.mk (below_step (below4 HB.out GEb.out _ _ _ _) hb)
          have n1_ := Aside0.mk (show wd34.heap[gd]? = some (.cells #[(.slice A l.length c), .bool false, .int .i64 (-1), .int .i64 (-1)] 24 (0, 0)) from blk_below (far4 BKd.out Nd_b.out _ _ _ _) hb)
          have n2_ := Aside0.mk (show wd34.heap[ga]? = some (.cells #[.slice Aa l3.length ca, .bool false, .int .i64 (-1), .int .i64 (-1)] 24 (0, 0)) from blk_below (far4 BKa.out Na_b.out _ _ _ _) hb)
          have n3_ := Aside0.mk (show wd34.heap[gb]? = some (.cells #[.slice Ab l4.length cb, .bool false, .int .i64 (-1), .int .i64 (-1)] 24 (0, 0)) from blk_below (put4 BKb.out (.slice Ab l4.length cb) (.bool false) (.int .i64 (-1)) (.int .i64 (-1))) hb)
          have n4_ := Aside0.mk (Kd.R_below (R4 HOa.out BKb.out (by decide) _ _ _ _) hb)
          have n5_ := Aside0.mk (Kd.R_below (R4 HOb.out BKb.out (by decide) _ _ _ _) hb)
          have n6_ := Aside0.mk (Kd.R_lower ho ((below4 HB.out GEb.out _ _ _ _)).size)
          clear HB BKd BKa BKb HOa HOb
          clear ned_b neb_d cd_0 cd_1 cd_2 cd_3 cb_0 cb_1 cb_2 cb_3 fb_0 fb_1 fb_2 fb_3
          have HB := n0_
          have BKd := n1_
          have BKa := n2_
          have BKb := n3_
          have HOa := n4_
          have HOb := n5_
          have HOc := n6_
          clear n0_ n1_ n2_ n3_ n4_ n5_ n6_
          obtain ⟨Ac, cc, eo⟩ := Kd.R_slice HOc.out
          subst eo
          clear ho hb
          go_wp2_with (first
              | ((with_reducible refine gate_dst (N := 19) rfl ?_);
                  refine box_event ?hg (N := 19) ?hd (cs := #[.slice none 0 0, .bool false, .int .i64 0, .int .i64 0]) (t := 24) ?hr ?_;
                  (case hd => rfl); (case hg => rfl); (case hr => first | (go_simp; done) | (go_simp; rfl));
                  intro gc hg wd35 hbox hb;
                  have n0_ := Aside0.mk (below_step HB.out hb);
                  have n1_ := Aside0.mk (show wd35.heap[gd]? = some (.cells #[(.slice A l.length c), .bool false, .int .i64 (-1), .int .i64 (-1)] 24 (0, 0)) from blk_below BKd.out hb);
                  have n2_ := Aside0.mk (show wd35.heap[ga]? = some (.cells #[.slice Aa l3.length ca, .bool false, .int .i64 (-1), .int .i64 (-1)] 24 (0, 0)) from blk_below BKa.out hb);
                  have n3_ := Aside0.mk (show wd35.heap[gb]? = some (.cells #[.slice Ab l4.length cb, .bool false, .int .i64 (-1), .int .i64 (-1)] 24 (0, 0)) from blk_below BKb.out hb);
                  have n4_ := Aside0.mk (Kd.R_below HOa.out hb);
                  have n5_ := Aside0.mk (Kd.R_below HOb.out hb);
                  have n6_ := Aside0.mk (Kd.R_below HOc.out hb);
                  have n7_ := Aside0.mk (show w.heap.size ≤ gc by rw [hg]; exact (HB.out).size);
                  have n8_ := Aside0.mk (show gd ≠ gc by rw [hg]; exact Nat.ne_of_lt (blk_lt BKd.out));
                  have n9_ := Aside0.mk (show gc ≠ gd by rw [hg]; exact Nat.ne_of_gt (blk_lt BKd.out));
                  have n10_ := Aside0.mk (show ga ≠ gc by rw [hg]; exact Nat.ne_of_lt (blk_lt BKa.out));
                  have n11_ := Aside0.mk (show gc ≠ ga by rw [hg]; exact Nat.ne_of_gt (blk_lt BKa.out));
                  have n12_ := Aside0.mk (show gb ≠ gc by rw [hg]; exact Nat.ne_of_lt (blk_lt BKb.out));
                  have n13_ := Aside0.mk (show gc ≠ gb by rw [hg]; exact Nat.ne_of_gt (blk_lt BKb.out));
                  clear HB BKd BKa BKb HOa HOb HOc;
                  have HB := n0_;
                  have BKd := n1_;
                  have BKa := n2_;
                  have BKb := n3_;
                  have HOa := n4_;
                  have HOb := n5_;
                  have HOc := n6_;
                  have GEc := n7_;
                  have Nd_c := n8_;
                  have Nc_d := n9_;
                  have Na_c := n10_;
                  have Nc_a := n11_;
                  have Nb_c := n12_;
                  have Nc_b := n13_;
                  clear n0_ n1_ n2_ n3_ n4_ n5_ n6_ n7_ n8_ n9_ n10_ n11_ n12_ n13_;
                  have BKc := Aside0.mk hbox;
                  clear hg hbox hb;
                  have cc_0 : wd35.cell? ⟨gc, 0, none⟩ = some (.slice none 0 0) := (blk_cell BKc.out 0).trans rfl;
                  have cc_1 : wd35.cell? ⟨gc, 1, none⟩ = some (.bool false) := (blk_cell BKc.out 1).trans rfl;
                  have cc_2 : wd35.cell? ⟨gc, 2, none⟩ = some (.int .i64 0) := (blk_cell BKc.out 2).trans rfl;
                  have cc_3 : wd35.cell? ⟨gc, 3, none⟩ = some (.int .i64 0) := (blk_cell BKc.out 3).trans rfl;
                  have fc_0 := blk_frozen BKc.out 0;
                  have fc_1 := blk_frozen BKc.out 1;
                  have fc_2 := blk_frozen BKc.out 2;
                  have fc_3 := blk_frozen BKc.out 3)
              | fail)
          refine ((disk_Read.calls Ac cc l5 (false) (-1) (-1) (name) (⟨#[]⟩) (7) _ (Kd.R_reads' (R4 HOc.out BKc.out (by decide) _ _ _ _)).2.2 (Kd.R_reads' HOc.out).2.1 h6').mono ?_)
          rintro e wd36 ⟨rfl, hb⟩
          have n0_ := Aside0.mk (below_step (below4 HB.out GEc.out _ _ _ _) hb)
          have n1_ := Aside0.mk (show wd36.heap[gd]? = some (.cells #[(.slice A l.length c), .bool false, .int .i64 (-1), .int .i64 (-1)] 24 (0, 0)) from blk_below (far4 BKd.out Nd_c.out _ _ _ _) hb)
          have n2_ := Aside0.mk (show wd36.heap[ga]? = some (.cells #[.slice Aa l3.length ca, .bool false, .int .i64 (-1), .int .i64 (-1)] 24 (0, 0)) from blk_below (far4 BKa.out Na_c.out _ _ _ _) hb)
          have n3_ := Aside0.mk (show wd36.heap[gb]? = some (.cells #[.slice Ab l4.length cb, .bool false, .int .i64 (-1), .int .i64 (-1)] 24 (0, 0)) from blk_below (far4 BKb.out Nb_c.out _ _ _ _) hb)
          have n4_ := Aside0.mk (show wd36.heap[gc]? = some (.cells #[.slice Ac l5.length cc, .bool false, .int .i64 (-1), .int .i64 (-1)] 24 (0, 0)) from blk_below (put4 BKc.out (.slice Ac l5.length cc) (.bool false) (.int .i64 (-1)) (.int .i64 (-1))) hb)
          have n5_ := Aside0.mk (Kd.R_below (R4 HOa.out BKc.out (by decide) _ _ _ _) hb)
          have n6_ := Aside0.mk (Kd.R_below (R4 HOb.out BKc.out (by decide) _ _ _ _) hb)
          have n7_ := Aside0.mk (Kd.R_below (R4 HOc.out BKc.out (by decide) _ _ _ _) hb)
          clear HB BKd BKa BKb BKc HOa HOb HOc
          clear cc_0 cc_1 cc_2 cc_3 fc_0 fc_1 fc_2 fc_3
          have HB := n0_
          have BKd := n1_
          have BKa := n2_
          have BKb := n3_
          have BKc := n4_
          have HOa := n5_
          have HOb := n6_
          have HOc := n7_
          clear n0_ n1_ n2_ n3_ n4_ n5_ n6_ n7_
          clear hb
          go_wp2_with fail
          go_ret
          exact ⟨by simp [*], HB.out⟩
        ·
          go_wp2_with (first
              | ((with_reducible refine gate_dst (N := 15) rfl ?_);
                  refine box_event ?hg (N := 15) ?hd (cs := #[.slice none 0 0, .bool false, .int .i64 0, .int .i64 0]) (t := 24) ?hr ?_;
                  (case hd => rfl); (case hg => rfl); (case hr => first | (go_simp; done) | (go_simp; rfl));
                  intro gb hg wd37 hbox hb;
                  have n0_ := Aside0.mk (below_step HB.out hb);
                  have n1_ := Aside0.mk (show wd37.heap[gd]? = some (.cells #[(.slice A l.length c), .bool false, .int .i64 (-1), .int .i64 (-1)] 24 (0, 0)) from blk_below BKd.out hb);
                  have n2_ := Aside0.mk (show wd37.heap[ga]? = some (.cells #[.slice Aa l3.length ca, .bool false, .int .i64 (-1), .int .i64 (-1)] 24 (0, 0)) from blk_below BKa.out hb);
                  have n3_ := Aside0.mk (Kd.R_below HOa.out hb);
                  have n4_ := Aside0.mk (Kd.R_below HOb.out hb);
                  have n5_ := Aside0.mk (show w.heap.size ≤ gb by rw [hg]; exact (HB.out).size);
                  have n6_ := Aside0.mk (show gd ≠ gb by rw [hg]; exact Nat.ne_of_lt (blk_lt BKd.out));
                  have n7_ := Aside0.mk (show gb ≠ gd by rw [hg]; exact Nat.ne_of_gt (blk_lt BKd.out));
                  have n8_ := Aside0.mk (show ga ≠ gb by rw [hg]; exact Nat.ne_of_lt (blk_lt BKa.out));
                  have n9_ := Aside0.mk (show gb ≠ ga by rw [hg]; exact Nat.ne_of_gt (blk_lt BKa.out));
                  clear HB BKd BKa HOa HOb;
                  clear cd_0 cd_1 cd_2 cd_3 fd_0 fd_1 fd_2 fd_3;
                  have HB := n0_;
                  have BKd := n1_;
                  have BKa := n2_;
                  have HOa := n3_;
                  have HOb := n4_;
                  have GEb := n5_;
                  have Nd_b := n6_;
                  have Nb_d := n7_;
                  have Na_b := n8_;
                  have Nb_a := n9_;
                  clear n0_ n1_ n2_ n3_ n4_ n5_ n6_ n7_ n8_ n9_;
                  have BKb := Aside0.mk hbox;
                  clear hg hbox hb;
                  have ned_b := Nd_b.out;
                  have neb_d := Nb_d.out;
                  have cd_0 : wd37.cell? ⟨gd, 0, none⟩ = some ((.slice A l.length c)) := (blk_cell BKd.out 0).trans rfl;
                  have cd_1 : wd37.cell? ⟨gd, 1, none⟩ = some (.bool false) := (blk_cell BKd.out 1).trans rfl;
                  have cd_2 : wd37.cell? ⟨gd, 2, none⟩ = some (.int .i64 (-1)) := (blk_cell BKd.out 2).trans rfl;
                  have cd_3 : wd37.cell? ⟨gd, 3, none⟩ = some (.int .i64 (-1)) := (blk_cell BKd.out 3).trans rfl;
                  have cb_0 : wd37.cell? ⟨gb, 0, none⟩ = some (.slice none 0 0) := (blk_cell BKb.out 0).trans rfl;
                  have cb_1 : wd37.cell? ⟨gb, 1, none⟩ = some (.bool false) := (blk_cell BKb.out 1).trans rfl;
                  have cb_2 : wd37.cell? ⟨gb, 2, none⟩ = some (.int .i64 0) := (blk_cell BKb.out 2).trans rfl;
                  have cb_3 : wd37.cell? ⟨gb, 3, none⟩ = some (.int .i64 0) := (blk_cell BKb.out 3).trans rfl;
                  have fb_0 := blk_frozen BKb.out 0;
                  have fb_1 := blk_frozen BKb.out 1;
                  have fb_2 := blk_frozen BKb.out 2;
                  have fb_3 := blk_frozen BKb.out 3)
              | fail)
          obtain ⟨l5, h5, h6⟩ := remove_at hok hx hi hn
          have h6' := disk_Read_eq l5 false (-1) (-1) name
          rw [h6] at h6'
          refine ((disk_Remove.calls A c l (false) (-1) (-1) (name) (l5) (false) (-1) (-1) (0) _ (Kd.C_below HRp.out (below4 HB.out GEb.out _ _ _ _)) HCp.out (by rw [disk_Remove_eq, h5])).mono ?_)
          rintro e wd38 ⟨v, rfl, ho, hb⟩
          have n0_ := Aside0.mk (below_step (below4 HB.out GEb.out _ _ _ _) hb)
          have n1_ := Aside0.mk (show wd38.heap[gd]? = some (.cells #[(.slice A l.length c), .bool false, .int .i64 (-1), .int .i64 (-1)] 24 (0, 0)) from blk_below (far4 BKd.out Nd_b.out _ _ _ _) hb)
          have n2_ := Aside0.mk (show wd38.heap[ga]? = some (.cells #[.slice Aa l3.length ca, .bool false, .int .i64 (-1), .int .i64 (-1)] 24 (0, 0)) from blk_below (far4 BKa.out Na_b.out _ _ _ _) hb)
          have n3_ := Aside0.mk (show wd38.heap[gb]? = some (.cells #[.slice Ab l4.length cb, .bool false, .int .i64 (-1), .int .i64 (-1)] 24 (0, 0)) from blk_below (put4 BKb.out (.slice Ab l4.length cb) (.bool false) (.int .i64 (-1)) (.int .i64 (-1))) hb)
          have n4_ := Aside0.mk (Kd.R_below (R4 HOa.out BKb.out (by decide) _ _ _ _) hb)
          have n5_ := Aside0.mk (Kd.R_below (R4 HOb.out BKb.out (by decide) _ _ _ _) hb)
          have n6_ := Aside0.mk (Kd.R_lower ho ((below4 HB.out GEb.out _ _ _ _)).size)
          clear HB BKd BKa BKb HOa HOb
          clear ned_b neb_d cd_0 cd_1 cd_2 cd_3 cb_0 cb_1 cb_2 cb_3 fb_0 fb_1 fb_2 fb_3
          have HB := n0_
          have BKd := n1_
          have BKa := n2_
          have BKb := n3_
          have HOa := n4_
          have HOb := n5_
          have HOc := n6_
          clear n0_ n1_ n2_ n3_ n4_ n5_ n6_
          obtain ⟨Ac, cc, eo⟩ := Kd.R_slice HOc.out
          subst eo
          clear ho hb
          go_wp2_with (first
              | ((with_reducible refine gate_dst (N := 19) rfl ?_);
                  refine box_event ?hg (N := 19) ?hd (cs := #[.slice none 0 0, .bool false, .int .i64 0, .int .i64 0]) (t := 24) ?hr ?_;
                  (case hd => rfl); (case hg => rfl); (case hr => first | (go_simp; done) | (go_simp; rfl));
                  intro gc hg wd39 hbox hb;
                  have n0_ := Aside0.mk (below_step HB.out hb);
                  have n1_ := Aside0.mk (show wd39.heap[gd]? = some (.cells #[(.slice A l.length c), .bool false, .int .i64 (-1), .int .i64 (-1)] 24 (0, 0)) from blk_below BKd.out hb);
                  have n2_ := Aside0.mk (show wd39.heap[ga]? = some (.cells #[.slice Aa l3.length ca, .bool false, .int .i64 (-1), .int .i64 (-1)] 24 (0, 0)) from blk_below BKa.out hb);
                  have n3_ := Aside0.mk (show wd39.heap[gb]? = some (.cells #[.slice Ab l4.length cb, .bool false, .int .i64 (-1), .int .i64 (-1)] 24 (0, 0)) from blk_below BKb.out hb);
                  have n4_ := Aside0.mk (Kd.R_below HOa.out hb);
                  have n5_ := Aside0.mk (Kd.R_below HOb.out hb);
                  have n6_ := Aside0.mk (Kd.R_below HOc.out hb);
                  have n7_ := Aside0.mk (show w.heap.size ≤ gc by rw [hg]; exact (HB.out).size);
                  have n8_ := Aside0.mk (show gd ≠ gc by rw [hg]; exact Nat.ne_of_lt (blk_lt BKd.out));
                  have n9_ := Aside0.mk (show gc ≠ gd by rw [hg]; exact Nat.ne_of_gt (blk_lt BKd.out));
                  have n10_ := Aside0.mk (show ga ≠ gc by rw [hg]; exact Nat.ne_of_lt (blk_lt BKa.out));
                  have n11_ := Aside0.mk (show gc ≠ ga by rw [hg]; exact Nat.ne_of_gt (blk_lt BKa.out));
                  have n12_ := Aside0.mk (show gb ≠ gc by rw [hg]; exact Nat.ne_of_lt (blk_lt BKb.out));
                  have n13_ := Aside0.mk (show gc ≠ gb by rw [hg]; exact Nat.ne_of_gt (blk_lt BKb.out));
                  clear HB BKd BKa BKb HOa HOb HOc;
                  have HB := n0_;
                  have BKd := n1_;
                  have BKa := n2_;
                  have BKb := n3_;
                  have HOa := n4_;
                  have HOb := n5_;
                  have HOc := n6_;
                  have GEc := n7_;
                  have Nd_c := n8_;
                  have Nc_d := n9_;
                  have Na_c := n10_;
                  have Nc_a := n11_;
                  have Nb_c := n12_;
                  have Nc_b := n13_;
                  clear n0_ n1_ n2_ n3_ n4_ n5_ n6_ n7_ n8_ n9_ n10_ n11_ n12_ n13_;
                  have BKc := Aside0.mk hbox;
                  clear hg hbox hb;
                  have cc_0 : wd39.cell? ⟨gc, 0, none⟩ = some (.slice none 0 0) := (blk_cell BKc.out 0).trans rfl;
                  have cc_1 : wd39.cell? ⟨gc, 1, none⟩ = some (.bool false) := (blk_cell BKc.out 1).trans rfl;
                  have cc_2 : wd39.cell? ⟨gc, 2, none⟩ = some (.int .i64 0) := (blk_cell BKc.out 2).trans rfl;
                  have cc_3 : wd39.cell? ⟨gc, 3, none⟩ = some (.int .i64 0) := (blk_cell BKc.out 3).trans rfl;
                  have fc_0 := blk_frozen BKc.out 0;
                  have fc_1 := blk_frozen BKc.out 1;
                  have fc_2 := blk_frozen BKc.out 2;
                  have fc_3 := blk_frozen BKc.out 3)
              | fail)
          refine ((disk_Read.calls Ac cc l5 (false) (-1) (-1) (name) (⟨#[]⟩) (7) _ (Kd.R_reads' (R4 HOc.out BKc.out (by decide) _ _ _ _)).2.2 (Kd.R_reads' HOc.out).2.1 h6').mono ?_)
          rintro e wd40 ⟨rfl, hb⟩
          have n0_ := Aside0.mk (below_step (below4 HB.out GEc.out _ _ _ _) hb)
          have n1_ := Aside0.mk (show wd40.heap[gd]? = some (.cells #[(.slice A l.length c), .bool false, .int .i64 (-1), .int .i64 (-1)] 24 (0, 0)) from blk_below (far4 BKd.out Nd_c.out _ _ _ _) hb)
          have n2_ := Aside0.mk (show wd40.heap[ga]? = some (.cells #[.slice Aa l3.length ca, .bool false, .int .i64 (-1), .int .i64 (-1)] 24 (0, 0)) from blk_below (far4 BKa.out Na_c.out _ _ _ _) hb)
          have n3_ := Aside0.mk (show wd40.heap[gb]? = some (.cells #[.slice Ab l4.length cb, .bool false, .int .i64 (-1), .int .i64 (-1)] 24 (0, 0)) from blk_below (far4 BKb.out Nb_c.out _ _ _ _) hb)
          have n4_ := Aside0.mk (show wd40.heap[gc]? = some (.cells #[.slice Ac l5.length cc, .bool false, .int .i64 (-1), .int .i64 (-1)] 24 (0, 0)) from blk_below (put4 BKc.out (.slice Ac l5.length cc) (.bool false) (.int .i64 (-1)) (.int .i64 (-1))) hb)
          have n5_ := Aside0.mk (Kd.R_below (R4 HOa.out BKc.out (by decide) _ _ _ _) hb)
          have n6_ := Aside0.mk (Kd.R_below (R4 HOb.out BKc.out (by decide) _ _ _ _) hb)
          have n7_ := Aside0.mk (Kd.R_below (R4 HOc.out BKc.out (by decide) _ _ _ _) hb)
          clear HB BKd BKa BKb BKc HOa HOb HOc
          clear cc_0 cc_1 cc_2 cc_3 fc_0 fc_1 fc_2 fc_3
          have HB := n0_
          have BKd := n1_
          have BKa := n2_
          have BKb := n3_
          have BKc := n4_
          have HOa := n5_
          have HOb := n6_
          have HOc := n7_
          clear n0_ n1_ n2_ n3_ n4_ n5_ n6_ n7_
          clear hb
          go_wp2_with fail
          go_ret
          exact ⟨by simp [*], HB.out⟩
  · have hw2 : w2 ≠ 0 := by
      have h := read_other HRD.out hw1 data
      rw [HAP.out] at h
      exact h
    go_wp2_with (first
        | ((with_reducible refine gate_dst (N := 11) rfl ?_);
            refine box_event ?hg (N := 11) ?hd (cs := #[.slice none 0 0, .bool false, .int .i64 0, .int .i64 0]) (t := 24) ?hr ?_;
            (case hd => rfl); (case hg => rfl); (case hr => first | (go_simp; done) | (go_simp; rfl));
            intro ga hg wd41 hbox hb;
            have n0_ := Aside0.mk (below_step HB.out hb);
            have n1_ := Aside0.mk (show wd41.heap[gd]? = some (.cells #[(.slice A l.length c), .bool dn, .int .i64 (-1), .int .i64 (-1)] 24 (0, 0)) from blk_below BKd.out hb);
            have n2_ := Aside0.mk (Kd.R_below HOa.out hb);
            have n3_ := Aside0.mk (show w.heap.size ≤ ga by rw [hg]; exact (HB.out).size);
            have n4_ := Aside0.mk (show gd ≠ ga by rw [hg]; exact Nat.ne_of_lt (blk_lt BKd.out));
            have n5_ := Aside0.mk (show ga ≠ gd by rw [hg]; exact Nat.ne_of_gt (blk_lt BKd.out));
            clear HB BKd HOa;
            have HB := n0_;
            have BKd := n1_;
            have HOa := n2_;
            have GEa := n3_;
            have Nd_a := n4_;
            have Na_d := n5_;
            clear n0_ n1_ n2_ n3_ n4_ n5_;
            have BKa := Aside0.mk hbox;
            clear hg hbox hb;
            have ca_0 : wd41.cell? ⟨ga, 0, none⟩ = some (.slice none 0 0) := (blk_cell BKa.out 0).trans rfl;
            have ca_1 : wd41.cell? ⟨ga, 1, none⟩ = some (.bool false) := (blk_cell BKa.out 1).trans rfl;
            have ca_2 : wd41.cell? ⟨ga, 2, none⟩ = some (.int .i64 0) := (blk_cell BKa.out 2).trans rfl;
            have ca_3 : wd41.cell? ⟨ga, 3, none⟩ = some (.int .i64 0) := (blk_cell BKa.out 3).trans rfl;
            have fa_0 := blk_frozen BKa.out 0;
            have fa_1 := blk_frozen BKa.out 1;
            have fa_2 := blk_frozen BKa.out 2;
            have fa_3 := blk_frozen BKa.out 3)
        | fail)
    go_ret
    exact ⟨by simp [*], (below4 HB.out GEa.out _ _ _ _)⟩
end Go.Proofs.Ytanonhipicoigaa.T
