import Derived.Test.YtanonhipicoigaaL4
import Derived.Test.YtanonhipicoigaaG11
namespace Go.Proofs.Ytanonhipicoigaa.T
open Go.RowKit Go.Proofs.YtanonhipicoigaaW.PrintWords Go.Proofs.YtanonhipicoigaaW.PrintLast Go.Proofs.YtanonhipicoigaaW.PrintMore
set_option linter.unusedVariables false
set_option linter.unusedSimpArgs false

theorem disk_Crash_right {l : List S43} (h : rightF l = true) (dn : Bool) (fu fa : Int) (ks : List Int) : disk_Crash.f l dn fu fa ks = some (crashF l ks, false, -1, -1, 0) := by rw [disk_Crash.f, if_pos h]
theorem disk_Crash_wrong {l : List S43} (h : ¬ rightF l = true) (dn : Bool) (fu fa : Int) (ks : List Int) : disk_Crash.f l dn fu fa ks = some ([], false, 0, 0, 6) := by rw [disk_Crash.f, if_neg h]
/-- A step on a disk that does not fail of itself. -/
theorem do_sound {l : List S43} (h : rightF l = true) (k : Int) (s d : ByteArray) (n : Int) : ∃ l2 e, disk_Do.f l false (-1) (-1) k s d n = some (l2, false, -1, -1, e) ∧ e ≠ 17 ∧ e ≠ 18 := by
  rw [disk_Do_eq]
  have hc := came_do l false (-1) (-1) k s d n
  revert hc
  generalize doF l false (-1) (-1) k s d n = R
  intro hc
  cases hc with
  | wrong h' => rw [h] at h'; cases h'
  | down h' hd => cases hd
  | refused e h' h1 h2 h3 => exact ⟨_, _, rfl, h2, h3⟩
  | fault h' hd hf => cases hf
  | fuse l' fa' h' hd hf hu hl hg he => cases hu
  | done l' fu' fa' h' hd hf hu hg h1 h2 =>
    subst h1 h2
    exact ⟨_, _, rfl, by decide, by decide⟩
set_option maxHeartbeats 8000000 in
set_option maxRecDepth 100000 in
theorem DiskTwice_walk (A : Option Addr) (c : Nat) (l : List S43) (dn : Bool) (fu fa : Int) (A1 : Option Addr) (c1 : Nat) (l1 : List Int) (A2 : Option Addr) (c2 : Nat) (l2 : List Int) (k : Int) (nm dt : ByteArray) (n : Int) (w : World)
    (hr : Kd.C k43 w A l.length l) (hc : l.length ≤ c) (hr1 : Kd.C (Kd.int .i64) w A1 l1.length l1) (hc1 : l1.length ≤ c1) (hr2 : Kd.C (Kd.int .i64) w A2 l2.length l2) (hc2 : l2.length ≤ c2) :
    Calls Try.prog 7 #[.agg #[.slice A l.length c, .bool dn, .int .i64 fu, .int .i64 fa], .slice A1 l1.length c1, .slice A2 l2.length c2, .agg #[.int .u8 k, .string nm, .string dt, .int .i64 n]] w fun e w' => e = .returned (.bool true) ∧ Below w.heap.size w w' := by
  have HRp := Aside0.mk hr
  have HCp := Aside0.mk hc
  have HR1 := Aside0.mk hr1
  have HC1 := Aside0.mk hc1
  have HR2 := Aside0.mk hr2
  have HC2 := Aside0.mk hc2
  clear hr hc hr1 hc1 hr2 hc2
  have HB := Aside0.mk (Below.refl w.heap.size w)
  go_enter Try.func7, Try.ntmps7
  go_wp2_with (first
      | ((with_reducible refine gate_dst (N := 4) rfl ?_);
          refine box_event ?hg (N := 4) ?hd (cs := #[(.slice A l.length c), .bool dn, .int .i64 fu, .int .i64 fa]) (t := 24) ?hr ?_;
          (case hd => rfl); (case hg => rfl); (case hr => first | (go_simp; done) | (go_simp; rfl));
          intro gd hg wd1 hbox hb;
          have n0_ := Aside0.mk (below_step HB.out hb);
          have n1_ := Aside0.mk (show w.heap.size ≤ gd by rw [hg]; exact (HB.out).size);
          clear HB;
          have HB := n0_;
          have GEd := n1_;
          clear n0_ n1_;
          have BKd := Aside0.mk hbox;
          clear hg hbox hb)
      | ((with_reducible refine gate_dst (N := 7) rfl ?_);
          refine box_event ?hg (N := 7) ?hd (cs := #[.int .u8 k, .string nm, .string dt, .int .i64 n]) (t := 38) ?hr ?_;
          (case hd => rfl); (case hg => rfl); (case hr => first | (go_simp; done) | (go_simp; rfl));
          intro gs hg wd2 hbox hb;
          have n0_ := Aside0.mk (below_step HB.out hb);
          have n1_ := Aside0.mk (show wd2.heap[gd]? = some (.cells #[(.slice A l.length c), .bool dn, .int .i64 fu, .int .i64 fa] 24 (0, 0)) from blk_below BKd.out hb);
          have n2_ := Aside0.mk (show w.heap.size ≤ gs by rw [hg]; exact (HB.out).size);
          have n3_ := Aside0.mk (show gd ≠ gs by rw [hg]; exact Nat.ne_of_lt (blk_lt BKd.out));
          have n4_ := Aside0.mk (show gs ≠ gd by rw [hg]; exact Nat.ne_of_gt (blk_lt BKd.out));
          clear HB BKd;
          have HB := n0_;
          have BKd := n1_;
          have GEs := n2_;
          have Nd_s := n3_;
          have Ns_d := n4_;
          clear n0_ n1_ n2_ n3_ n4_;
          have BKs := Aside0.mk hbox;
          clear hg hbox hb)
      | fail)
  refine ((lives.calls true _ rfl).mono ?_)
  rintro e wd3 ⟨rfl, hb⟩
  have n0_ := Aside0.mk (below_step HB.out hb)
  have n1_ := Aside0.mk (show wd3.heap[gd]? = some (.cells #[(.slice A l.length c), .bool dn, .int .i64 fu, .int .i64 fa] 24 (0, 0)) from blk_below BKd.out hb)
  have n2_ := Aside0.mk (show wd3.heap[gs]? = some (.cells #[.int .u8 k, .string nm, .string dt, .int .i64 n] 38 (0, 0)) from blk_below BKs.out hb)
  clear HB BKd BKs
  have HB := n0_
  have BKd := n1_
  have BKs := n2_
  clear n0_ n1_ n2_
  clear hb
  have cd_0 : wd3.cell? ⟨gd, 0, none⟩ = some ((.slice A l.length c)) := (blk_cell BKd.out 0).trans rfl
  have cd_1 : wd3.cell? ⟨gd, 1, none⟩ = some (.bool dn) := (blk_cell BKd.out 1).trans rfl
  have cd_2 : wd3.cell? ⟨gd, 2, none⟩ = some (.int .i64 fu) := (blk_cell BKd.out 2).trans rfl
  have cd_3 : wd3.cell? ⟨gd, 3, none⟩ = some (.int .i64 fa) := (blk_cell BKd.out 3).trans rfl
  have fd_0 := blk_frozen BKd.out 0
  have fd_1 := blk_frozen BKd.out 1
  have fd_2 := blk_frozen BKd.out 2
  have fd_3 := blk_frozen BKd.out 3
  go_wp2_with fail
  by_cases hok : rightF l = true
  · have hle := right_len hok
    have hok1 := crash_right hok l1
    obtain ⟨la, hla⟩ : ∃ la, la = crashF l l1 := ⟨_, rfl⟩
    have hlla : la.length ≤ 64 := right_len (by rw [hla]; exact hok1)
    have HOK := Aside0.mk hok
    have HLA := Aside0.mk hla
    have HOKA := Aside0.mk (show rightF la = true by rw [hla]; exact hok1)
    have HTW := Aside0.mk (show crashF la l2 = la by rw [hla]; exact crash_twice hok l1 l2)
    clear hok hok1 hla
    refine ((disk_Crash.calls A c l (dn) (fu) (fa) A1 c1 l1 (la) (false) (-1) (-1) (0) _ (Kd.C_below HRp.out HB.out) HCp.out (Kd.C_below HR1.out HB.out) HC1.out (by rw [HLA.out]; exact disk_Crash_right HOK.out _ _ _ _)).mono ?_)
    rintro e wd4 ⟨v, rfl, ho, hb⟩
    have n0_ := Aside0.mk (below_step HB.out hb)
    have n1_ := Aside0.mk (show wd4.heap[gd]? = some (.cells #[(.slice A l.length c), .bool dn, .int .i64 fu, .int .i64 fa] 24 (0, 0)) from blk_below BKd.out hb)
    have n2_ := Aside0.mk (show wd4.heap[gs]? = some (.cells #[.int .u8 k, .string nm, .string dt, .int .i64 n] 38 (0, 0)) from blk_below BKs.out hb)
    have n3_ := Aside0.mk (Kd.R_lower ho (HB.out).size)
    clear HB BKd BKs
    clear cd_0 cd_1 cd_2 cd_3 fd_0 fd_1 fd_2 fd_3
    have HB := n0_
    have BKd := n1_
    have BKs := n2_
    have HOa := n3_
    clear n0_ n1_ n2_ n3_
    obtain ⟨Aa, ca, eo⟩ := Kd.R_slice HOa.out
    subst eo
    clear ho hb
    go_wp2_with (first
        | ((with_reducible refine gate_dst (N := 9) rfl ?_);
            refine box_event ?hg (N := 9) ?hd (cs := #[.slice none 0 0, .bool false, .int .i64 0, .int .i64 0]) (t := 24) ?hr ?_;
            (case hd => rfl); (case hg => rfl); (case hr => first | (go_simp; done) | (go_simp; rfl));
            intro ga hg wd5 hbox hb;
            have n0_ := Aside0.mk (below_step HB.out hb);
            have n1_ := Aside0.mk (show wd5.heap[gd]? = some (.cells #[(.slice A l.length c), .bool dn, .int .i64 fu, .int .i64 fa] 24 (0, 0)) from blk_below BKd.out hb);
            have n2_ := Aside0.mk (show wd5.heap[gs]? = some (.cells #[.int .u8 k, .string nm, .string dt, .int .i64 n] 38 (0, 0)) from blk_below BKs.out hb);
            have n3_ := Aside0.mk (Kd.R_below HOa.out hb);
            have n4_ := Aside0.mk (show w.heap.size ≤ ga by rw [hg]; exact (HB.out).size);
            have n5_ := Aside0.mk (show gd ≠ ga by rw [hg]; exact Nat.ne_of_lt (blk_lt BKd.out));
            have n6_ := Aside0.mk (show ga ≠ gd by rw [hg]; exact Nat.ne_of_gt (blk_lt BKd.out));
            have n7_ := Aside0.mk (show gs ≠ ga by rw [hg]; exact Nat.ne_of_lt (blk_lt BKs.out));
            have n8_ := Aside0.mk (show ga ≠ gs by rw [hg]; exact Nat.ne_of_gt (blk_lt BKs.out));
            clear HB BKd BKs HOa;
            have HB := n0_;
            have BKd := n1_;
            have BKs := n2_;
            have HOa := n3_;
            have GEa := n4_;
            have Nd_a := n5_;
            have Na_d := n6_;
            have Ns_a := n7_;
            have Na_s := n8_;
            clear n0_ n1_ n2_ n3_ n4_ n5_ n6_ n7_ n8_;
            have BKa := Aside0.mk hbox;
            clear hg hbox hb;
            have ca_0 : wd5.cell? ⟨ga, 0, none⟩ = some (.slice none 0 0) := (blk_cell BKa.out 0).trans rfl;
            have ca_1 : wd5.cell? ⟨ga, 1, none⟩ = some (.bool false) := (blk_cell BKa.out 1).trans rfl;
            have ca_2 : wd5.cell? ⟨ga, 2, none⟩ = some (.int .i64 0) := (blk_cell BKa.out 2).trans rfl;
            have ca_3 : wd5.cell? ⟨ga, 3, none⟩ = some (.int .i64 0) := (blk_cell BKa.out 3).trans rfl;
            have fa_0 := blk_frozen BKa.out 0;
            have fa_1 := blk_frozen BKa.out 1;
            have fa_2 := blk_frozen BKa.out 2;
            have fa_3 := blk_frozen BKa.out 3)
        | fail)
    refine ((disk_Crash.calls Aa ca la (false) (-1) (-1) A2 c2 l2 (la) (false) (-1) (-1) (0) _ (Kd.R_reads' (R4 HOa.out BKa.out (by decide) _ _ _ _)).2.2 (Kd.R_reads' HOa.out).2.1 (Kd.C_below HR2.out (below4 HB.out GEa.out _ _ _ _)) HC2.out (by rw [disk_Crash_right HOKA.out, HTW.out])).mono ?_)
    rintro e wd6 ⟨v, rfl, ho, hb⟩
    have n0_ := Aside0.mk (below_step (below4 HB.out GEa.out _ _ _ _) hb)
    have n1_ := Aside0.mk (show wd6.heap[gd]? = some (.cells #[(.slice A l.length c), .bool dn, .int .i64 fu, .int .i64 fa] 24 (0, 0)) from blk_below (far4 BKd.out Nd_a.out _ _ _ _) hb)
    have n2_ := Aside0.mk (show wd6.heap[gs]? = some (.cells #[.int .u8 k, .string nm, .string dt, .int .i64 n] 38 (0, 0)) from blk_below (far4 BKs.out Ns_a.out _ _ _ _) hb)
    have n3_ := Aside0.mk (show wd6.heap[ga]? = some (.cells #[.slice Aa la.length ca, .bool false, .int .i64 (-1), .int .i64 (-1)] 24 (0, 0)) from blk_below (put4 BKa.out (.slice Aa la.length ca) (.bool false) (.int .i64 (-1)) (.int .i64 (-1))) hb)
    have n4_ := Aside0.mk (Kd.R_below (R4 HOa.out BKa.out (by decide) _ _ _ _) hb)
    have n5_ := Aside0.mk (Kd.R_lower ho ((below4 HB.out GEa.out _ _ _ _)).size)
    clear HB BKd BKs BKa HOa
    clear ca_0 ca_1 ca_2 ca_3 fa_0 fa_1 fa_2 fa_3
    have HB := n0_
    have BKd := n1_
    have BKs := n2_
    have BKa := n3_
    have HOa := n4_
    have HOb := n5_
    clear n0_ n1_ n2_ n3_ n4_ n5_
    obtain ⟨Ab, cb, eo⟩ := Kd.R_slice HOb.out
    subst eo
    clear ho hb
    have ca_0 : wd6.cell? ⟨ga, 0, none⟩ = some (.slice Aa la.length ca) := (blk_cell BKa.out 0).trans rfl
    have ca_1 : wd6.cell? ⟨ga, 1, none⟩ = some (.bool false) := (blk_cell BKa.out 1).trans rfl
    have ca_2 : wd6.cell? ⟨ga, 2, none⟩ = some (.int .i64 (-1)) := (blk_cell BKa.out 2).trans rfl
    have ca_3 : wd6.cell? ⟨ga, 3, none⟩ = some (.int .i64 (-1)) := (blk_cell BKa.out 3).trans rfl
    have fa_0 := blk_frozen BKa.out 0
    have fa_1 := blk_frozen BKa.out 1
    have fa_2 := blk_frozen BKa.out 2
    have fa_3 := blk_frozen BKa.out 3
    go_wp2_with (first
        | ((with_reducible refine gate_dst (N := 11) rfl ?_);
            refine box_event ?hg (N := 11) ?hd (cs := #[.slice none 0 0, .bool false, .int .i64 0, .int .i64 0]) (t := 24) ?hr ?_;
            (case hd => rfl); (case hg => rfl); (case hr => first | (go_simp; done) | (go_simp; rfl));
            intro gb hg wd7 hbox hb;
            have n0_ := Aside0.mk (below_step HB.out hb);
            have n1_ := Aside0.mk (show wd7.heap[gd]? = some (.cells #[(.slice A l.length c), .bool dn, .int .i64 fu, .int .i64 fa] 24 (0, 0)) from blk_below BKd.out hb);
            have n2_ := Aside0.mk (show wd7.heap[gs]? = some (.cells #[.int .u8 k, .string nm, .string dt, .int .i64 n] 38 (0, 0)) from blk_below BKs.out hb);
            have n3_ := Aside0.mk (show wd7.heap[ga]? = some (.cells #[.slice Aa la.length ca, .bool false, .int .i64 (-1), .int .i64 (-1)] 24 (0, 0)) from blk_below BKa.out hb);
            have n4_ := Aside0.mk (Kd.R_below HOa.out hb);
            have n5_ := Aside0.mk (Kd.R_below HOb.out hb);
            have n6_ := Aside0.mk (show w.heap.size ≤ gb by rw [hg]; exact (HB.out).size);
            have n7_ := Aside0.mk (show gd ≠ gb by rw [hg]; exact Nat.ne_of_lt (blk_lt BKd.out));
            have n8_ := Aside0.mk (show gb ≠ gd by rw [hg]; exact Nat.ne_of_gt (blk_lt BKd.out));
            have n9_ := Aside0.mk (show gs ≠ gb by rw [hg]; exact Nat.ne_of_lt (blk_lt BKs.out));
            have n10_ := Aside0.mk (show gb ≠ gs by rw [hg]; exact Nat.ne_of_gt (blk_lt BKs.out));
            have n11_ := Aside0.mk (show ga ≠ gb by rw [hg]; exact Nat.ne_of_lt (blk_lt BKa.out));
            have n12_ := Aside0.mk (show gb ≠ ga by rw [hg]; exact Nat.ne_of_gt (blk_lt BKa.out));
            clear HB BKd BKs BKa HOa HOb;
            clear ca_0 ca_1 ca_2 ca_3 fa_0 fa_1 fa_2 fa_3;
            have HB := n0_;
            have BKd := n1_;
            have BKs := n2_;
            have BKa := n3_;
            have HOa := n4_;
            have HOb := n5_;
            have GEb := n6_;
            have Nd_b := n7_;
            have Nb_d := n8_;
            have Ns_b := n9_;
            have Nb_s := n10_;
            have Na_b := n11_;
            have Nb_a := n12_;
            clear n0_ n1_ n2_ n3_ n4_ n5_ n6_ n7_ n8_ n9_ n10_ n11_ n12_;
            have BKb := Aside0.mk hbox;
            clear hg hbox hb;
            have nea_b := Na_b.out;
            have neb_a := Nb_a.out;
            have ca_0 : wd7.cell? ⟨ga, 0, none⟩ = some (.slice Aa la.length ca) := (blk_cell BKa.out 0).trans rfl;
            have ca_1 : wd7.cell? ⟨ga, 1, none⟩ = some (.bool false) := (blk_cell BKa.out 1).trans rfl;
            have ca_2 : wd7.cell? ⟨ga, 2, none⟩ = some (.int .i64 (-1)) := (blk_cell BKa.out 2).trans rfl;
            have ca_3 : wd7.cell? ⟨ga, 3, none⟩ = some (.int .i64 (-1)) := (blk_cell BKa.out 3).trans rfl;
            have cb_0 : wd7.cell? ⟨gb, 0, none⟩ = some (.slice none 0 0) := (blk_cell BKb.out 0).trans rfl;
            have cb_1 : wd7.cell? ⟨gb, 1, none⟩ = some (.bool false) := (blk_cell BKb.out 1).trans rfl;
            have cb_2 : wd7.cell? ⟨gb, 2, none⟩ = some (.int .i64 0) := (blk_cell BKb.out 2).trans rfl;
            have cb_3 : wd7.cell? ⟨gb, 3, none⟩ = some (.int .i64 0) := (blk_cell BKb.out 3).trans rfl;
            have fb_0 := blk_frozen BKb.out 0;
            have fb_1 := blk_frozen BKb.out 1;
            have fb_2 := blk_frozen BKb.out 2;
            have fb_3 := blk_frozen BKb.out 3)
        | fail)
    refine ((penstockref09_Same.calls 70 Aa ca la false (-1) (-1) Ab cb la false (-1) (-1) true _ (Kd.R_reads' (R4 HOa.out BKb.out (by decide) _ _ _ _)).2.2 (Kd.R_reads' HOa.out).2.1 (Kd.R_reads' (R4 HOb.out BKb.out (by decide) _ _ _ _)).2.2 (Kd.R_reads' HOb.out).2.1 (same_refl la false (-1) (-1) hlla)).mono ?_)
    rintro e wd8 ⟨rfl, hb⟩
    have n0_ := Aside0.mk (below_step (below4 HB.out GEb.out _ _ _ _) hb)
    have n1_ := Aside0.mk (show wd8.heap[gd]? = some (.cells #[(.slice A l.length c), .bool dn, .int .i64 fu, .int .i64 fa] 24 (0, 0)) from blk_below (far4 BKd.out Nd_b.out _ _ _ _) hb)
    have n2_ := Aside0.mk (show wd8.heap[gs]? = some (.cells #[.int .u8 k, .string nm, .string dt, .int .i64 n] 38 (0, 0)) from blk_below (far4 BKs.out Ns_b.out _ _ _ _) hb)
    have n3_ := Aside0.mk (show wd8.heap[ga]? = some (.cells #[.slice Aa la.length ca, .bool false, .int .i64 (-1), .int .i64 (-1)] 24 (0, 0)) from blk_below (far4 BKa.out Na_b.out _ _ _ _) hb)
    have n4_ := Aside0.mk (show wd8.heap[gb]? = some (.cells #[.slice Ab la.length cb, .bool false, .int .i64 (-1), .int .i64 (-1)] 24 (0, 0)) from blk_below (put4 BKb.out (.slice Ab la.length cb) (.bool false) (.int .i64 (-1)) (.int .i64 (-1))) hb)
    have n5_ := Aside0.mk (Kd.R_below (R4 HOa.out BKb.out (by decide) _ _ _ _) hb)
    have n6_ := Aside0.mk (Kd.R_below (R4 HOb.out BKb.out (by decide) _ _ _ _) hb)
    clear HB BKd BKs BKa BKb HOa HOb
    clear nea_b neb_a ca_0 ca_1 ca_2 ca_3 cb_0 cb_1 cb_2 cb_3 fb_0 fb_1 fb_2 fb_3
    have HB := n0_
    have BKd := n1_
    have BKs := n2_
    have BKa := n3_
    have BKb := n4_
    have HOa := n5_
    have HOb := n6_
    clear n0_ n1_ n2_ n3_ n4_ n5_ n6_
    clear hb
    have nea_s := Na_s.out
    have nes_a := Ns_a.out
    have ca_0 : wd8.cell? ⟨ga, 0, none⟩ = some (.slice Aa la.length ca) := (blk_cell BKa.out 0).trans rfl
    have ca_1 : wd8.cell? ⟨ga, 1, none⟩ = some (.bool false) := (blk_cell BKa.out 1).trans rfl
    have ca_2 : wd8.cell? ⟨ga, 2, none⟩ = some (.int .i64 (-1)) := (blk_cell BKa.out 2).trans rfl
    have ca_3 : wd8.cell? ⟨ga, 3, none⟩ = some (.int .i64 (-1)) := (blk_cell BKa.out 3).trans rfl
    have cs_0 : wd8.cell? ⟨gs, 0, none⟩ = some (.int .u8 k) := (blk_cell BKs.out 0).trans rfl
    have cs_1 : wd8.cell? ⟨gs, 1, none⟩ = some (.string nm) := (blk_cell BKs.out 1).trans rfl
    have cs_2 : wd8.cell? ⟨gs, 2, none⟩ = some (.string dt) := (blk_cell BKs.out 2).trans rfl
    have cs_3 : wd8.cell? ⟨gs, 3, none⟩ = some (.int .i64 n) := (blk_cell BKs.out 3).trans rfl
    go_wp2_with fail
    obtain ⟨l3, e3, hdo, he17, he18⟩ := do_sound HOKA.out k nm dt n
    refine ((disk_Do.calls Aa ca la false (-1) (-1) k nm dt n l3 false (-1) (-1) e3 _ (Kd.R_reads' HOa.out).2.2 (Kd.R_reads' HOa.out).2.1 hdo).mono ?_)
    rintro e wd9 ⟨v, rfl, ho, hb⟩
    have n0_ := Aside0.mk (below_step HB.out hb)
    have n1_ := Aside0.mk (show wd9.heap[gd]? = some (.cells #[(.slice A l.length c), .bool dn, .int .i64 fu, .int .i64 fa] 24 (0, 0)) from blk_below BKd.out hb)
    have n2_ := Aside0.mk (show wd9.heap[gs]? = some (.cells #[.int .u8 k, .string nm, .string dt, .int .i64 n] 38 (0, 0)) from blk_below BKs.out hb)
    have n3_ := Aside0.mk (show wd9.heap[ga]? = some (.cells #[.slice Aa la.length ca, .bool false, .int .i64 (-1), .int .i64 (-1)] 24 (0, 0)) from blk_below BKa.out hb)
    have n4_ := Aside0.mk (show wd9.heap[gb]? = some (.cells #[.slice Ab la.length cb, .bool false, .int .i64 (-1), .int .i64 (-1)] 24 (0, 0)) from blk_below BKb.out hb)
    have n5_ := Aside0.mk (Kd.R_below HOa.out hb)
    have n6_ := Aside0.mk (Kd.R_below HOb.out hb)
    have n7_ := Aside0.mk (Kd.R_lower ho (HB.out).size)
    clear HB BKd BKs BKa BKb HOa HOb
    clear nea_s nes_a ca_0 ca_1 ca_2 ca_3 cs_0 cs_1 cs_2 cs_3
    have HB := n0_
    have BKd := n1_
    have BKs := n2_
    have BKa := n3_
    have BKb := n4_
    have HOa := n5_
    have HOb := n6_
    have HOc := n7_
    clear n0_ n1_ n2_ n3_ n4_ n5_ n6_ n7_
    obtain ⟨Ac, cc, eo⟩ := Kd.R_slice HOc.out
    subst eo
    clear ho hb
    go_wp2_with (first
        | ((with_reducible refine gate_dst (N := 13) rfl ?_);
            refine box_event ?hg (N := 13) ?hd (cs := #[.slice none 0 0, .bool false, .int .i64 0, .int .i64 0]) (t := 24) ?hr ?_;
            (case hd => rfl); (case hg => rfl); (case hr => first | (go_simp; done) | (go_simp; rfl));
            intro gc hg wd10 hbox hb;
            have n0_ := Aside0.mk (below_step HB.out hb);
            have n1_ := Aside0.mk (show wd10.heap[gd]? = some (.cells #[(.slice A l.length c), .bool dn, .int .i64 fu, .int .i64 fa] 24 (0, 0)) from blk_below BKd.out hb);
            have n2_ := Aside0.mk (show wd10.heap[gs]? = some (.cells #[.int .u8 k, .string nm, .string dt, .int .i64 n] 38 (0, 0)) from blk_below BKs.out hb);
            have n3_ := Aside0.mk (show wd10.heap[ga]? = some (.cells #[.slice Aa la.length ca, .bool false, .int .i64 (-1), .int .i64 (-1)] 24 (0, 0)) from blk_below BKa.out hb);
            have n4_ := Aside0.mk (show wd10.heap[gb]? = some (.cells #[.slice Ab la.length cb, .bool false, .int .i64 (-1), .int .i64 (-1)] 24 (0, 0)) from blk_below BKb.out hb);
            have n5_ := Aside0.mk (Kd.R_below HOa.out hb);
            have n6_ := Aside0.mk (Kd.R_below HOb.out hb);
            have n7_ := Aside0.mk (Kd.R_below HOc.out hb);
            have n8_ := Aside0.mk (show w.heap.size ≤ gc by rw [hg]; exact (HB.out).size);
            have n9_ := Aside0.mk (show gd ≠ gc by rw [hg]; exact Nat.ne_of_lt (blk_lt BKd.out));
            have n10_ := Aside0.mk (show gc ≠ gd by rw [hg]; exact Nat.ne_of_gt (blk_lt BKd.out));
            have n11_ := Aside0.mk (show gs ≠ gc by rw [hg]; exact Nat.ne_of_lt (blk_lt BKs.out));
            have n12_ := Aside0.mk (show gc ≠ gs by rw [hg]; exact Nat.ne_of_gt (blk_lt BKs.out));
            have n13_ := Aside0.mk (show ga ≠ gc by rw [hg]; exact Nat.ne_of_lt (blk_lt BKa.out));
            have n14_ := Aside0.mk (show gc ≠ ga by rw [hg]; exact Nat.ne_of_gt (blk_lt BKa.out));
            have n15_ := Aside0.mk (show gb ≠ gc by rw [hg]; exact Nat.ne_of_lt (blk_lt BKb.out));
            have n16_ := Aside0.mk (show gc ≠ gb by rw [hg]; exact Nat.ne_of_gt (blk_lt BKb.out));
            clear HB BKd BKs BKa BKb HOa HOb HOc;
            have HB := n0_;
            have BKd := n1_;
            have BKs := n2_;
            have BKa := n3_;
            have BKb := n4_;
            have HOa := n5_;
            have HOb := n6_;
            have HOc := n7_;
            have GEc := n8_;
            have Nd_c := n9_;
            have Nc_d := n10_;
            have Ns_c := n11_;
            have Nc_s := n12_;
            have Na_c := n13_;
            have Nc_a := n14_;
            have Nb_c := n15_;
            have Nc_b := n16_;
            clear n0_ n1_ n2_ n3_ n4_ n5_ n6_ n7_ n8_ n9_ n10_ n11_ n12_ n13_ n14_ n15_ n16_;
            have BKc := Aside0.mk hbox;
            clear hg hbox hb;
            have cc_0 : wd10.cell? ⟨gc, 0, none⟩ = some (.slice none 0 0) := (blk_cell BKc.out 0).trans rfl;
            have cc_1 : wd10.cell? ⟨gc, 1, none⟩ = some (.bool false) := (blk_cell BKc.out 1).trans rfl;
            have cc_2 : wd10.cell? ⟨gc, 2, none⟩ = some (.int .i64 0) := (blk_cell BKc.out 2).trans rfl;
            have cc_3 : wd10.cell? ⟨gc, 3, none⟩ = some (.int .i64 0) := (blk_cell BKc.out 3).trans rfl;
            have fc_0 := blk_frozen BKc.out 0;
            have fc_1 := blk_frozen BKc.out 1;
            have fc_2 := blk_frozen BKc.out 2;
            have fc_3 := blk_frozen BKc.out 3)
        | fail)
    go_ret
    exact ⟨by simp [*], (below4 HB.out GEc.out _ _ _ _)⟩
  · have HOK := Aside0.mk hok
    clear hok
    have hlv0 : lv0.length = 0 := rfl
    refine ((disk_Crash.calls A c l (dn) (fu) (fa) A1 c1 l1 (lv0) (false) (0) (0) (6) _ (Kd.C_below HRp.out HB.out) HCp.out (Kd.C_below HR1.out HB.out) HC1.out (disk_Crash_wrong HOK.out _ _ _ _)).mono ?_)
    rintro e wd11 ⟨v, rfl, ho, hb⟩
    have n0_ := Aside0.mk (below_step HB.out hb)
    have n1_ := Aside0.mk (show wd11.heap[gd]? = some (.cells #[(.slice A l.length c), .bool dn, .int .i64 fu, .int .i64 fa] 24 (0, 0)) from blk_below BKd.out hb)
    have n2_ := Aside0.mk (show wd11.heap[gs]? = some (.cells #[.int .u8 k, .string nm, .string dt, .int .i64 n] 38 (0, 0)) from blk_below BKs.out hb)
    have n3_ := Aside0.mk (Kd.R_lower ho (HB.out).size)
    clear HB BKd BKs
    clear cd_0 cd_1 cd_2 cd_3 fd_0 fd_1 fd_2 fd_3
    have HB := n0_
    have BKd := n1_
    have BKs := n2_
    have HOa := n3_
    clear n0_ n1_ n2_ n3_
    obtain ⟨Aa, ca, eo⟩ := Kd.R_slice HOa.out
    subst eo
    clear ho hb
    have cd_0 : wd11.cell? ⟨gd, 0, none⟩ = some ((.slice A l.length c)) := (blk_cell BKd.out 0).trans rfl
    have cd_1 : wd11.cell? ⟨gd, 1, none⟩ = some (.bool dn) := (blk_cell BKd.out 1).trans rfl
    have cd_2 : wd11.cell? ⟨gd, 2, none⟩ = some (.int .i64 fu) := (blk_cell BKd.out 2).trans rfl
    have cd_3 : wd11.cell? ⟨gd, 3, none⟩ = some (.int .i64 fa) := (blk_cell BKd.out 3).trans rfl
    have fd_0 := blk_frozen BKd.out 0
    have fd_1 := blk_frozen BKd.out 1
    have fd_2 := blk_frozen BKd.out 2
    have fd_3 := blk_frozen BKd.out 3
    go_wp2_with (first
        | ((with_reducible refine gate_dst (N := 9) rfl ?_);
            refine box_event ?hg (N := 9) ?hd (cs := #[.slice none 0 0, .bool false, .int .i64 0, .int .i64 0]) (t := 24) ?hr ?_;
            (case hd => rfl); (case hg => rfl); (case hr => first | (go_simp; done) | (go_simp; rfl));
            intro ga hg wd12 hbox hb;
            have n0_ := Aside0.mk (below_step HB.out hb);
            have n1_ := Aside0.mk (show wd12.heap[gd]? = some (.cells #[(.slice A l.length c), .bool dn, .int .i64 fu, .int .i64 fa] 24 (0, 0)) from blk_below BKd.out hb);
            have n2_ := Aside0.mk (show wd12.heap[gs]? = some (.cells #[.int .u8 k, .string nm, .string dt, .int .i64 n] 38 (0, 0)) from blk_below BKs.out hb);
            have n3_ := Aside0.mk (Kd.R_below HOa.out hb);
            have n4_ := Aside0.mk (show w.heap.size ≤ ga by rw [hg]; exact (HB.out).size);
            have n5_ := Aside0.mk (show gd ≠ ga by rw [hg]; exact Nat.ne_of_lt (blk_lt BKd.out));
            have n6_ := Aside0.mk (show ga ≠ gd by rw [hg]; exact Nat.ne_of_gt (blk_lt BKd.out));
            have n7_ := Aside0.mk (show gs ≠ ga by rw [hg]; exact Nat.ne_of_lt (blk_lt BKs.out));
            have n8_ := Aside0.mk (show ga ≠ gs by rw [hg]; exact Nat.ne_of_gt (blk_lt BKs.out));
            clear HB BKd BKs HOa;
            clear cd_0 cd_1 cd_2 cd_3 fd_0 fd_1 fd_2 fd_3;
            have HB := n0_;
            have BKd := n1_;
            have BKs := n2_;
            have HOa := n3_;
            have GEa := n4_;
            have Nd_a := n5_;
            have Na_d := n6_;
            have Ns_a := n7_;
            have Na_s := n8_;
            clear n0_ n1_ n2_ n3_ n4_ n5_ n6_ n7_ n8_;
            have BKa := Aside0.mk hbox;
            clear hg hbox hb;
            have ned_a := Nd_a.out;
            have nea_d := Na_d.out;
            have cd_0 : wd12.cell? ⟨gd, 0, none⟩ = some ((.slice A l.length c)) := (blk_cell BKd.out 0).trans rfl;
            have cd_1 : wd12.cell? ⟨gd, 1, none⟩ = some (.bool dn) := (blk_cell BKd.out 1).trans rfl;
            have cd_2 : wd12.cell? ⟨gd, 2, none⟩ = some (.int .i64 fu) := (blk_cell BKd.out 2).trans rfl;
            have cd_3 : wd12.cell? ⟨gd, 3, none⟩ = some (.int .i64 fa) := (blk_cell BKd.out 3).trans rfl;
            have ca_0 : wd12.cell? ⟨ga, 0, none⟩ = some (.slice none 0 0) := (blk_cell BKa.out 0).trans rfl;
            have ca_1 : wd12.cell? ⟨ga, 1, none⟩ = some (.bool false) := (blk_cell BKa.out 1).trans rfl;
            have ca_2 : wd12.cell? ⟨ga, 2, none⟩ = some (.int .i64 0) := (blk_cell BKa.out 2).trans rfl;
            have ca_3 : wd12.cell? ⟨ga, 3, none⟩ = some (.int .i64 0) := (blk_cell BKa.out 3).trans rfl;
            have fa_0 := blk_frozen BKa.out 0;
            have fa_1 := blk_frozen BKa.out 1;
            have fa_2 := blk_frozen BKa.out 2;
            have fa_3 := blk_frozen BKa.out 3)
        | fail)
    refine ((disk_Check.calls A c l dn fu fa 6 _ (Kd.C_below HRp.out (below4 HB.out GEa.out _ _ _ _)) HCp.out (by rw [disk_Check.f, if_neg HOK.out])).mono ?_)
    rintro e wd13 ⟨rfl, hb⟩
    have n0_ := Aside0.mk (below_step (below4 HB.out GEa.out _ _ _ _) hb)
    have n1_ := Aside0.mk (show wd13.heap[gd]? = some (.cells #[(.slice A l.length c), .bool dn, .int .i64 fu, .int .i64 fa] 24 (0, 0)) from blk_below (far4 BKd.out Nd_a.out _ _ _ _) hb)
    have n2_ := Aside0.mk (show wd13.heap[gs]? = some (.cells #[.int .u8 k, .string nm, .string dt, .int .i64 n] 38 (0, 0)) from blk_below (far4 BKs.out Ns_a.out _ _ _ _) hb)
    have n3_ := Aside0.mk (show wd13.heap[ga]? = some (.cells #[.slice Aa lv0.length ca, .bool false, .int .i64 (0), .int .i64 (0)] 24 (0, 0)) from blk_below (put4 BKa.out (.slice Aa lv0.length ca) (.bool false) (.int .i64 (0)) (.int .i64 (0))) hb)
    have n4_ := Aside0.mk (Kd.R_below (R4 HOa.out BKa.out (by decide) _ _ _ _) hb)
    clear HB BKd BKs BKa HOa
    clear ned_a nea_d cd_0 cd_1 cd_2 cd_3 ca_0 ca_1 ca_2 ca_3 fa_0 fa_1 fa_2 fa_3
    have HB := n0_
    have BKd := n1_
    have BKs := n2_
    have BKa := n3_
    have HOa := n4_
    clear n0_ n1_ n2_ n3_ n4_
    clear hb
    go_wp2_with fail
    go_ret
    exact ⟨by simp [*], HB.out⟩
end Go.Proofs.Ytanonhipicoigaa.T
