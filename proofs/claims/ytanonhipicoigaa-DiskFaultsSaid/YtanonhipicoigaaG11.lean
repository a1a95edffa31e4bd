import Derived.Test.YtanonhipicoigaaL0
import Derived.Test.YtanonhipicoigaaTx4
import Derived.Test.YtanonhipicoigaaTx6
namespace Go.Proofs.Ytanonhipicoigaa.T
open Go.RowKit Go.Proofs.YtanonhipicoigaaW.PrintWords Go.Proofs.YtanonhipicoigaaW.PrintLast Go.Proofs.YtanonhipicoigaaW.PrintMore
set_option linter.unusedVariables false
set_option linter.unusedSimpArgs false

/-! ### The disk that lives asks -/
def lvA : ByteArray := ⟨#[97]⟩
def lvXY : ByteArray := ⟨#[120, 121]⟩
def lvZ : ByteArray := ⟨#[122]⟩
def lvXYZ : ByteArray := ⟨#[120, 121, 122]⟩
def lv0 : List S43 := []
def lv1 : List S43 := [⟨⟨#[97]⟩, ⟨#[]⟩, 0⟩]
def lv2 : List S43 := [⟨⟨#[97]⟩, ⟨#[120, 121]⟩, 0⟩]
def lv3 : List S43 := [⟨⟨#[97]⟩, ⟨#[120, 121]⟩, 2⟩]
def lv4 : List S43 := [⟨⟨#[97]⟩, ⟨#[120, 121, 122]⟩, 2⟩]
def lv6 : List S43 := [⟨⟨#[97]⟩, ⟨#[120, 121, 122]⟩, 3⟩]
theorem lv0_0 : penstocklaw09_whole.f = some (lv0, false, -1, -1) := rfl
theorem lv0_1 : disk_Create.f lv0 false (-1) (-1) ⟨#[97]⟩ = some (lv1, false, -1, -1, 0) := by
  simp [disk_Create.f, changedF, rightF, okFiles, okFile, lv0, lv1, bsOf, bsGo, isAt, rfC, ByteArray.toList_eq, ByteArray.size]
theorem ok1 (x : ByteArray) (n : Int) (h0 : 0 ≤ n) (h1 : n ≤ (x.size : Int)) (h2 : x.size ≤ 262144) : rightF [⟨⟨#[97]⟩, x, n⟩] = true := by
  simp [rightF, okFiles, okFile, ByteArray.toList_eq, Op.bytesLess, h0, h1, h2]
  simp [ByteArray.size]
theorem bs1 (x : ByteArray) (n : Int) : bsOf [⟨⟨#[97]⟩, x, n⟩] ⟨#[97]⟩ = 0 := by
  simp [bsOf, bsGo, cmpS, rd_T43, bl_irrefl]
theorem at1 (x : ByteArray) (n : Int) : isAt [⟨⟨#[97]⟩, x, n⟩] ⟨#[97]⟩ 0 = true := by
  simp [isAt, cmpS, rd_T43, bl_irrefl]
theorem lv1_2 : disk_Append.f lv1 false (-1) (-1) ⟨#[97]⟩ ⟨#[120, 121]⟩ = some (lv2, false, -1, -1, 0) := by
  simp [disk_Append.f, changedF, lv1, lv2, ok1 ⟨#[]⟩ 0 (by decide) (by decide) (by decide), bs1, at1, rfW, rd_T43]
  rw [if_pos (by decide)]
  rfl
theorem lv2_3 : disk_Sync.f lv2 false (-1) (-1) ⟨#[97]⟩ = some (lv3, false, -1, -1, 0) := by
  simp [disk_Sync.f, changedF, lv2, lv3, ok1 ⟨#[120, 121]⟩ 0 (by decide) (by decide) (by decide), bs1, at1, rd_T43]
  decide
theorem lv3_4 : disk_Append.f lv3 false (-1) (-1) ⟨#[97]⟩ ⟨#[122]⟩ = some (lv4, false, -1, -1, 0) := by
  simp [disk_Append.f, changedF, lv3, lv4, ok1 ⟨#[120, 121]⟩ 2 (by decide) (by decide) (by decide), bs1, at1, rfW, rd_T43]
  rw [if_pos (by decide)]
  rfl
theorem lv4_5 : disk_Crash.f lv4 false (-1) (-1) [] = some (lv3, false, -1, -1, 0) := by
  simp [disk_Crash.f, lv3, lv4, ok1 ⟨#[120, 121, 122]⟩ 2 (by decide) (by decide) (by decide), crashF, crash1, crashS]
  decide
theorem lv4_6 : disk_Crash.f lv4 false (-1) (-1) [1] = some (lv6, false, -1, -1, 0) := by
  simp [disk_Crash.f, lv6, lv4, ok1 ⟨#[120, 121, 122]⟩ 2 (by decide) (by decide) (by decide), crashF, crash1, crashS]
  decide
theorem lv5_7 : disk_Read.f lv3 false (-1) (-1) ⟨#[97]⟩ = some (⟨#[120, 121]⟩, 0) := by
  simp [disk_Read.f, disk_asked.f, disk_Check.f, disk_place.f, lv3, ok1 ⟨#[120, 121]⟩ 2 (by decide) (by decide) (by decide), bs1, at1, rd_T43]
theorem lv6_8 : disk_Read.f lv6 false (-1) (-1) ⟨#[97]⟩ = some (⟨#[120, 121, 122]⟩, 0) := by
  simp [disk_Read.f, disk_asked.f, disk_Check.f, disk_place.f, lv6, ok1 ⟨#[120, 121, 122]⟩ 3 (by decide) (by decide) (by decide), bs1, at1, rd_T43]
theorem ints1 {w : World} {g : Nat} (h : w.heap[g]? = some (.cells #[.int .i64 1] 3 (0, 0))) : (Kd.int .i64).C w (some ⟨g, 0, none⟩) 1 [1] := by
  refine Kd.C_of_reads (d := (0 : Int)) ⟨rfl, by decide, fun _ => ⟨_, rfl, fun j hj => ?_⟩⟩
  obtain rfl : j = 0 := by omega
  rw [add_plain']
  exact (blk_cell h _).trans rfl
theorem ints2 {w : World} {g : Nat} (e : w.heap.size = g) : (Kd.int .i64).C (w.alloc (.cells #[.int .i64 1] 3 (0, 0))) (some ⟨g, 0, none⟩) 1 [1] := by
  subst e
  exact ints1 (blk_new _ _)
def lives.f : Option Bool := some true
set_option maxHeartbeats 8000000 in
set_option maxRecDepth 100000 in
theorem lives.calls (r : Bool) (w : World) (h : lives.f = some r) : Calls Try.prog 9 #[] w fun e w' => e = .returned (.bool r) ∧ Below w.heap.size w w' := by
  obtain rfl : true = r := Option.some.inj h
  clear h
  have HB := Aside0.mk (Below.refl w.heap.size w)
  go_enter Try.func9, Try.ntmps9
  go_wp2_with fail
  refine ((penstocklaw09_whole.calls lv0 false (-1) (-1) _ lv0_0).mono ?_)
  rintro e wd1 ⟨v, rfl, ho, hb⟩
  have n0_ := Aside0.mk (below_step HB.out hb)
  have n1_ := Aside0.mk (Kd.R_lower ho (HB.out).size)
  clear HB
  have HB := n0_
  have HO0 := n1_
  clear n0_ n1_
  obtain ⟨A0, c0, eo⟩ := Kd.R_slice HO0.out
  subst eo
  clear ho hb
  go_wp2_with fail
  refine ((disk_Create.calls A0 c0 lv0 (false) (-1) (-1) (⟨#[97]⟩) (lv1) (false) (-1) (-1) (0) _ (Kd.R_reads' HO0.out).2.2 (Kd.R_reads' HO0.out).2.1 lv0_1).mono ?_)
  rintro e wd2 ⟨v, rfl, ho, hb⟩
  have n0_ := Aside0.mk (below_step HB.out hb)
  have n1_ := Aside0.mk (Kd.R_below HO0.out hb)
  have n2_ := Aside0.mk (Kd.R_lower ho (HB.out).size)
  clear HB HO0
  have HB := n0_
  have HO0 := n1_
  have HO1 := n2_
  clear n0_ n1_ n2_
  obtain ⟨A1, c1, eo⟩ := Kd.R_slice HO1.out
  subst eo
  clear ho hb
  clear HO0
  go_wp2_with (first
      | ((with_reducible refine gate_dst (N := 1) rfl ?_);
          refine box_event ?hg (N := 1) ?hd (cs := #[.slice none 0 0, .bool false, .int .i64 0, .int .i64 0]) (t := 24) ?hr ?_;
          (case hd => rfl); (case hg => rfl); (case hr => first | (go_simp; done) | (go_simp; rfl));
          intro gd hg wd3 hbox hb;
          have n0_ := Aside0.mk (below_step HB.out hb);
          have n1_ := Aside0.mk (Kd.R_below HO1.out hb);
          have n2_ := Aside0.mk (show w.heap.size ≤ gd by rw [hg]; exact (HB.out).size);
          clear HB HO1;
          have HB := n0_;
          have HO1 := n1_;
          have GEd := n2_;
          clear n0_ n1_ n2_;
          have BKd := Aside0.mk hbox;
          clear hg hbox hb;
          have cd_0 : wd3.cell? ⟨gd, 0, none⟩ = some (.slice none 0 0) := (blk_cell BKd.out 0).trans rfl;
          have cd_1 : wd3.cell? ⟨gd, 1, none⟩ = some (.bool false) := (blk_cell BKd.out 1).trans rfl;
          have cd_2 : wd3.cell? ⟨gd, 2, none⟩ = some (.int .i64 0) := (blk_cell BKd.out 2).trans rfl;
          have cd_3 : wd3.cell? ⟨gd, 3, none⟩ = some (.int .i64 0) := (blk_cell BKd.out 3).trans rfl;
          have fd_0 := blk_frozen BKd.out 0;
          have fd_1 := blk_frozen BKd.out 1;
          have fd_2 := blk_frozen BKd.out 2;
          have fd_3 := blk_frozen BKd.out 3)
      | fail)
  refine ((disk_Append.calls A1 c1 lv1 (false) (-1) (-1) (⟨#[97]⟩) (⟨#[120, 121]⟩) (lv2) (false) (-1) (-1) (0) _ (Kd.R_reads' (R4 HO1.out BKd.out (by decide) _ _ _ _)).2.2 (Kd.R_reads' HO1.out).2.1 lv1_2).mono ?_)
  rintro e wd4 ⟨v, rfl, ho, hb⟩
  have n0_ := Aside0.mk (below_step (below4 HB.out GEd.out _ _ _ _) hb)
  have n1_ := Aside0.mk (show wd4.heap[gd]? = some (.cells #[.slice A1 lv1.length c1, .bool false, .int .i64 (-1), .int .i64 (-1)] 24 (0, 0)) from blk_below (put4 BKd.out (.slice A1 lv1.length c1) (.bool false) (.int .i64 (-1)) (.int .i64 (-1))) hb)
  have n2_ := Aside0.mk (Kd.R_below (R4 HO1.out BKd.out (by decide) _ _ _ _) hb)
  have n3_ := Aside0.mk (Kd.R_lower ho ((below4 HB.out GEd.out _ _ _ _)).size)
  clear HB BKd HO1
  clear cd_0 cd_1 cd_2 cd_3 fd_0 fd_1 fd_2 fd_3
  have HB := n0_
  have BKd := n1_
  have HO1 := n2_
  have HO2 := n3_
  clear n0_ n1_ n2_ n3_
  obtain ⟨A2, c2, eo⟩ := Kd.R_slice HO2.out
  subst eo
  clear ho hb
  have cd_0 : wd4.cell? ⟨gd, 0, none⟩ = some (.slice A1 lv1.length c1) := (blk_cell BKd.out 0).trans rfl
  have cd_1 : wd4.cell? ⟨gd, 1, none⟩ = some (.bool false) := (blk_cell BKd.out 1).trans rfl
  have cd_2 : wd4.cell? ⟨gd, 2, none⟩ = some (.int .i64 (-1)) := (blk_cell BKd.out 2).trans rfl
  have cd_3 : wd4.cell? ⟨gd, 3, none⟩ = some (.int .i64 (-1)) := (blk_cell BKd.out 3).trans rfl
  have fd_0 := blk_frozen BKd.out 0
  have fd_1 := blk_frozen BKd.out 1
  have fd_2 := blk_frozen BKd.out 2
  have fd_3 := blk_frozen BKd.out 3
  clear HO1
  go_wp2_with fail
  refine ((disk_Sync.calls A2 c2 lv2 (false) (-1) (-1) (⟨#[97]⟩) (lv3) (false) (-1) (-1) (0) _ (Kd.R_reads' (R4 HO2.out BKd.out (by decide) _ _ _ _)).2.2 (Kd.R_reads' HO2.out).2.1 lv2_3).mono ?_)
  rintro e wd5 ⟨v, rfl, ho, hb⟩
  have n0_ := Aside0.mk (below_step (below4 HB.out GEd.out _ _ _ _) hb)
  have n1_ := Aside0.mk (show wd5.heap[gd]? = some (.cells #[.slice A2 lv2.length c2, .bool false, .int .i64 (-1), .int .i64 (-1)] 24 (0, 0)) from blk_below (put4 BKd.out (.slice A2 lv2.length c2) (.bool false) (.int .i64 (-1)) (.int .i64 (-1))) hb)
  have n2_ := Aside0.mk (Kd.R_below (R4 HO2.out BKd.out (by decide) _ _ _ _) hb)
  have n3_ := Aside0.mk (Kd.R_lower ho ((below4 HB.out GEd.out _ _ _ _)).size)
  clear HB BKd HO2
  clear cd_0 cd_1 cd_2 cd_3 fd_0 fd_1 fd_2 fd_3
  have HB := n0_
  have BKd := n1_
  have HO2 := n2_
  have HO3 := n3_
  clear n0_ n1_ n2_ n3_
  obtain ⟨A3, c3, eo⟩ := Kd.R_slice HO3.out
  subst eo
  clear ho hb
  have cd_0 : wd5.cell? ⟨gd, 0, none⟩ = some (.slice A2 lv2.length c2) := (blk_cell BKd.out 0).trans rfl
  have cd_1 : wd5.cell? ⟨gd, 1, none⟩ = some (.bool false) := (blk_cell BKd.out 1).trans rfl
  have cd_2 : wd5.cell? ⟨gd, 2, none⟩ = some (.int .i64 (-1)) := (blk_cell BKd.out 2).trans rfl
  have cd_3 : wd5.cell? ⟨gd, 3, none⟩ = some (.int .i64 (-1)) := (blk_cell BKd.out 3).trans rfl
  have fd_0 := blk_frozen BKd.out 0
  have fd_1 := blk_frozen BKd.out 1
  have fd_2 := blk_frozen BKd.out 2
  have fd_3 := blk_frozen BKd.out 3
  clear HO2
  go_wp2_with fail
  refine ((disk_Append.calls A3 c3 lv3 (false) (-1) (-1) (⟨#[97]⟩) (⟨#[122]⟩) (lv4) (false) (-1) (-1) (0) _ (Kd.R_reads' (R4 HO3.out BKd.out (by decide) _ _ _ _)).2.2 (Kd.R_reads' HO3.out).2.1 lv3_4).mono ?_)
  rintro e wd6 ⟨v, rfl, ho, hb⟩
  have n0_ := Aside0.mk (below_step (below4 HB.out GEd.out _ _ _ _) hb)
  have n1_ := Aside0.mk (show wd6.heap[gd]? = some (.cells #[.slice A3 lv3.length c3, .bool false, .int .i64 (-1), .int .i64 (-1)] 24 (0, 0)) from blk_below (put4 BKd.out (.slice A3 lv3.length c3) (.bool false) (.int .i64 (-1)) (.int .i64 (-1))) hb)
  have n2_ := Aside0.mk (Kd.R_below (R4 HO3.out BKd.out (by decide) _ _ _ _) hb)
  have n3_ := Aside0.mk (Kd.R_lower ho ((below4 HB.out GEd.out _ _ _ _)).size)
  clear HB BKd HO3
  clear cd_0 cd_1 cd_2 cd_3 fd_0 fd_1 fd_2 fd_3
  have HB := n0_
  have BKd := n1_
  have HO3 := n2_
  have HO4 := n3_
  clear n0_ n1_ n2_ n3_
  obtain ⟨A4, c4, eo⟩ := Kd.R_slice HO4.out
  subst eo
  clear ho hb
  have cd_0 : wd6.cell? ⟨gd, 0, none⟩ = some (.slice A3 lv3.length c3) := (blk_cell BKd.out 0).trans rfl
  have cd_1 : wd6.cell? ⟨gd, 1, none⟩ = some (.bool false) := (blk_cell BKd.out 1).trans rfl
  have cd_2 : wd6.cell? ⟨gd, 2, none⟩ = some (.int .i64 (-1)) := (blk_cell BKd.out 2).trans rfl
  have cd_3 : wd6.cell? ⟨gd, 3, none⟩ = some (.int .i64 (-1)) := (blk_cell BKd.out 3).trans rfl
  have fd_0 := blk_frozen BKd.out 0
  have fd_1 := blk_frozen BKd.out 1
  have fd_2 := blk_frozen BKd.out 2
  have fd_3 := blk_frozen BKd.out 3
  clear HO3
  go_wp2_with fail
  refine ((disk_Crash.calls A4 c4 lv4 false (-1) (-1) none 0 [] (lv3) (false) (-1) (-1) (0) _ (Kd.R_reads' (R4 HO4.out BKd.out (by decide) _ _ _ _)).2.2 (Kd.R_reads' HO4.out).2.1 (Kd.C_nil _ _) (Nat.le_refl _) lv4_5).mono ?_)
  rintro e wd7 ⟨v, rfl, ho, hb⟩
  have n0_ := Aside0.mk (below_step (below4 HB.out GEd.out _ _ _ _) hb)
  have n1_ := Aside0.mk (show wd7.heap[gd]? = some (.cells #[.slice A4 lv4.length c4, .bool false, .int .i64 (-1), .int .i64 (-1)] 24 (0, 0)) from blk_below (put4 BKd.out (.slice A4 lv4.length c4) (.bool false) (.int .i64 (-1)) (.int .i64 (-1))) hb)
  have n2_ := Aside0.mk (Kd.R_below (R4 HO4.out BKd.out (by decide) _ _ _ _) hb)
  have n3_ := Aside0.mk (Kd.R_lower ho ((below4 HB.out GEd.out _ _ _ _)).size)
  clear HB BKd HO4
  clear cd_0 cd_1 cd_2 cd_3 fd_0 fd_1 fd_2 fd_3
  have HB := n0_
  have BKd := n1_
  have HO4 := n2_
  have HOe := n3_
  clear n0_ n1_ n2_ n3_
  obtain ⟨Ae, ce, eo⟩ := Kd.R_slice HOe.out
  subst eo
  clear ho hb
  have cd_0 : wd7.cell? ⟨gd, 0, none⟩ = some (.slice A4 lv4.length c4) := (blk_cell BKd.out 0).trans rfl
  have cd_1 : wd7.cell? ⟨gd, 1, none⟩ = some (.bool false) := (blk_cell BKd.out 1).trans rfl
  have cd_2 : wd7.cell? ⟨gd, 2, none⟩ = some (.int .i64 (-1)) := (blk_cell BKd.out 2).trans rfl
  have cd_3 : wd7.cell? ⟨gd, 3, none⟩ = some (.int .i64 (-1)) := (blk_cell BKd.out 3).trans rfl
  have fd_0 := blk_frozen BKd.out 0
  have fd_1 := blk_frozen BKd.out 1
  have fd_2 := blk_frozen BKd.out 2
  have fd_3 := blk_frozen BKd.out 3
  go_wp2_with (first
      | ((with_reducible refine gate_dst (N := 6) rfl ?_);
          refine box_event ?hg (N := 6) ?hd (cs := #[.slice none 0 0, .bool false, .int .i64 0, .int .i64 0]) (t := 24) ?hr ?_;
          (case hd => rfl); (case hg => rfl); (case hr => first | (go_simp; done) | (go_simp; rfl));
          intro ge hg wd8 hbox hb;
          have n0_ := Aside0.mk (below_step HB.out hb);
          have n1_ := Aside0.mk (show wd8.heap[gd]? = some (.cells #[.slice A4 lv4.length c4, .bool false, .int .i64 (-1), .int .i64 (-1)] 24 (0, 0)) from blk_below BKd.out hb);
          have n2_ := Aside0.mk (Kd.R_below HO4.out hb);
          have n3_ := Aside0.mk (Kd.R_below HOe.out hb);
          have n4_ := Aside0.mk (show w.heap.size ≤ ge by rw [hg]; exact (HB.out).size);
          have n5_ := Aside0.mk (show gd ≠ ge by rw [hg]; exact Nat.ne_of_lt (blk_lt BKd.out));
          have n6_ := Aside0.mk (show ge ≠ gd by rw [hg]; exact Nat.ne_of_gt (blk_lt BKd.out));
          clear HB BKd HO4 HOe;
          clear cd_0 cd_1 cd_2 cd_3 fd_0 fd_1 fd_2 fd_3;
          have HB := n0_;
          have BKd := n1_;
          have HO4 := n2_;
          have HOe := n3_;
          have GEe := n4_;
          have Nd_e := n5_;
          have Ne_d := n6_;
          clear n0_ n1_ n2_ n3_ n4_ n5_ n6_;
          have BKe := Aside0.mk hbox;
          clear hg hbox hb;
          have ned_e := Nd_e.out;
          have nee_d := Ne_d.out;
          have cd_0 : wd8.cell? ⟨gd, 0, none⟩ = some (.slice A4 lv4.length c4) := (blk_cell BKd.out 0).trans rfl;
          have cd_1 : wd8.cell? ⟨gd, 1, none⟩ = some (.bool false) := (blk_cell BKd.out 1).trans rfl;
          have cd_2 : wd8.cell? ⟨gd, 2, none⟩ = some (.int .i64 (-1)) := (blk_cell BKd.out 2).trans rfl;
          have cd_3 : wd8.cell? ⟨gd, 3, none⟩ = some (.int .i64 (-1)) := (blk_cell BKd.out 3).trans rfl;
          have ce_0 : wd8.cell? ⟨ge, 0, none⟩ = some (.slice none 0 0) := (blk_cell BKe.out 0).trans rfl;
          have ce_1 : wd8.cell? ⟨ge, 1, none⟩ = some (.bool false) := (blk_cell BKe.out 1).trans rfl;
          have ce_2 : wd8.cell? ⟨ge, 2, none⟩ = some (.int .i64 0) := (blk_cell BKe.out 2).trans rfl;
          have ce_3 : wd8.cell? ⟨ge, 3, none⟩ = some (.int .i64 0) := (blk_cell BKe.out 3).trans rfl;
          have fe_0 := blk_frozen BKe.out 0;
          have fe_1 := blk_frozen BKe.out 1;
          have fe_2 := blk_frozen BKe.out 2;
          have fe_3 := blk_frozen BKe.out 3)
      | fail)
  refine ((disk_Crash.calls A4 c4 lv4 false (-1) (-1) (some ⟨wd8.heap.size, 0, none⟩) 1 [1] (lv6) (false) (-1) (-1) (0) _ (Kd.R_reads' (Kd.R_alloc (R4 HO4.out BKe.out (by decide) _ _ _ _) _)).2.2 (Kd.R_reads' HO4.out).2.1 (ints2 (by simp [World.setCell])) (Nat.le_refl _) lv4_6).mono ?_)
  rintro e wd9 ⟨v, rfl, ho, hb⟩
  have n0_ := Aside0.mk (below_step (below_alloc (below4 HB.out GEe.out _ _ _ _) _) hb)
  have n1_ := Aside0.mk (show wd9.heap[gd]? = some (.cells #[.slice A4 lv4.length c4, .bool false, .int .i64 (-1), .int .i64 (-1)] 24 (0, 0)) from blk_below (blk_alloc (far4 BKd.out Nd_e.out _ _ _ _) _) hb)
  have n2_ := Aside0.mk (show wd9.heap[ge]? = some (.cells #[.slice Ae lv3.length ce, .bool false, .int .i64 (-1), .int .i64 (-1)] 24 (0, 0)) from blk_below (blk_alloc (put4 BKe.out (.slice Ae lv3.length ce) (.bool false) (.int .i64 (-1)) (.int .i64 (-1))) _) hb)
  have n3_ := Aside0.mk (Kd.R_below (Kd.R_alloc (R4 HO4.out BKe.out (by decide) _ _ _ _) _) hb)
  have n4_ := Aside0.mk (Kd.R_below (Kd.R_alloc (R4 HOe.out BKe.out (by decide) _ _ _ _) _) hb)
  have n5_ := Aside0.mk (Kd.R_lower ho ((below_alloc (below4 HB.out GEe.out _ _ _ _) _)).size)
  clear HB BKd BKe HO4 HOe
  clear ned_e nee_d cd_0 cd_1 cd_2 cd_3 ce_0 ce_1 ce_2 ce_3 fe_0 fe_1 fe_2 fe_3
  have HB := n0_
  have BKd := n1_
  have BKe := n2_
  have HO4 := n3_
  have HOe := n4_
  have HOf := n5_
  clear n0_ n1_ n2_ n3_ n4_ n5_
  obtain ⟨Af, cf, eo⟩ := Kd.R_slice HOf.out
  subst eo
  clear ho hb
  have ce_0 : wd9.cell? ⟨ge, 0, none⟩ = some (.slice Ae lv3.length ce) := (blk_cell BKe.out 0).trans rfl
  have ce_1 : wd9.cell? ⟨ge, 1, none⟩ = some (.bool false) := (blk_cell BKe.out 1).trans rfl
  have ce_2 : wd9.cell? ⟨ge, 2, none⟩ = some (.int .i64 (-1)) := (blk_cell BKe.out 2).trans rfl
  have ce_3 : wd9.cell? ⟨ge, 3, none⟩ = some (.int .i64 (-1)) := (blk_cell BKe.out 3).trans rfl
  have fe_0 := blk_frozen BKe.out 0
  have fe_1 := blk_frozen BKe.out 1
  have fe_2 := blk_frozen BKe.out 2
  have fe_3 := blk_frozen BKe.out 3
  go_wp2_with (first
      | ((with_reducible refine gate_dst (N := 8) rfl ?_);
          refine box_event ?hg (N := 8) ?hd (cs := #[.slice none 0 0, .bool false, .int .i64 0, .int .i64 0]) (t := 24) ?hr ?_;
          (case hd => rfl); (case hg => rfl); (case hr => first | (go_simp; done) | (go_simp; rfl));
          intro gf hg wd10 hbox hb;
          have n0_ := Aside0.mk (below_step HB.out hb);
          have n1_ := Aside0.mk (show wd10.heap[gd]? = some (.cells #[.slice A4 lv4.length c4, .bool false, .int .i64 (-1), .int .i64 (-1)] 24 (0, 0)) from blk_below BKd.out hb);
          have n2_ := Aside0.mk (show wd10.heap[ge]? = some (.cells #[.slice Ae lv3.length ce, .bool false, .int .i64 (-1), .int .i64 (-1)] 24 (0, 0)) from blk_below BKe.out hb);
          have n3_ := Aside0.mk (Kd.R_below HO4.out hb);
          have n4_ := Aside0.mk (Kd.R_below HOe.out hb);
          have n5_ := Aside0.mk (Kd.R_below HOf.out hb);
          have n6_ := Aside0.mk (show w.heap.size ≤ gf by rw [hg]; exact (HB.out).size);
          have n7_ := Aside0.mk (show gd ≠ gf by rw [hg]; exact Nat.ne_of_lt (blk_lt BKd.out));
          have n8_ := Aside0.mk (show gf ≠ gd by rw [hg]; exact Nat.ne_of_gt (blk_lt BKd.out));
          have n9_ := Aside0.mk (show ge ≠ gf by rw [hg]; exact Nat.ne_of_lt (blk_lt BKe.out));
          have n10_ := Aside0.mk (show gf ≠ ge by rw [hg]; exact Nat.ne_of_gt (blk_lt BKe.out));
          clear HB BKd BKe HO4 HOe HOf;
          clear ce_0 ce_1 ce_2 ce_3 fe_0 fe_1 fe_2 fe_3;
          have HB := n0_;
          have BKd := n1_;
          have BKe := n2_;
          have HO4 := n3_;
          have HOe := n4_;
          have HOf := n5_;
          have GEf := n6_;
          have Nd_f := n7_;
          have Nf_d := n8_;
          have Ne_f := n9_;
          have Nf_e := n10_;
          clear n0_ n1_ n2_ n3_ n4_ n5_ n6_ n7_ n8_ n9_ n10_;
          have BKf := Aside0.mk hbox;
          clear hg hbox hb;
          have nee_f := Ne_f.out;
          have nef_e := Nf_e.out;
          have ce_0 : wd10.cell? ⟨ge, 0, none⟩ = some (.slice Ae lv3.length ce) := (blk_cell BKe.out 0).trans rfl;
          have ce_1 : wd10.cell? ⟨ge, 1, none⟩ = some (.bool false) := (blk_cell BKe.out 1).trans rfl;
          have ce_2 : wd10.cell? ⟨ge, 2, none⟩ = some (.int .i64 (-1)) := (blk_cell BKe.out 2).trans rfl;
          have ce_3 : wd10.cell? ⟨ge, 3, none⟩ = some (.int .i64 (-1)) := (blk_cell BKe.out 3).trans rfl;
          have cf_0 : wd10.cell? ⟨gf, 0, none⟩ = some (.slice none 0 0) := (blk_cell BKf.out 0).trans rfl;
          have cf_1 : wd10.cell? ⟨gf, 1, none⟩ = some (.bool false) := (blk_cell BKf.out 1).trans rfl;
          have cf_2 : wd10.cell? ⟨gf, 2, none⟩ = some (.int .i64 0) := (blk_cell BKf.out 2).trans rfl;
          have cf_3 : wd10.cell? ⟨gf, 3, none⟩ = some (.int .i64 0) := (blk_cell BKf.out 3).trans rfl;
          have ff_0 := blk_frozen BKf.out 0;
          have ff_1 := blk_frozen BKf.out 1;
          have ff_2 := blk_frozen BKf.out 2;
          have ff_3 := blk_frozen BKf.out 3)
      | fail)
  refine ((disk_Read.calls Ae ce lv3 (false) (-1) (-1) (⟨#[97]⟩) (⟨#[120, 121]⟩) (0) _ (Kd.R_reads' (R4 HOe.out BKf.out (by decide) _ _ _ _)).2.2 (Kd.R_reads' HOe.out).2.1 lv5_7).mono ?_)
  rintro e wd11 ⟨rfl, hb⟩
  have n0_ := Aside0.mk (below_step (below4 HB.out GEf.out _ _ _ _) hb)
  have n1_ := Aside0.mk (show wd11.heap[gd]? = some (.cells #[.slice A4 lv4.length c4, .bool false, .int .i64 (-1), .int .i64 (-1)] 24 (0, 0)) from blk_below (far4 BKd.out Nd_f.out _ _ _ _) hb)
  have n2_ := Aside0.mk (show wd11.heap[ge]? = some (.cells #[.slice Ae lv3.length ce, .bool false, .int .i64 (-1), .int .i64 (-1)] 24 (0, 0)) from blk_below (far4 BKe.out Ne_f.out _ _ _ _) hb)
  have n3_ := Aside0.mk (show wd11.heap[gf]? = some (.cells #[.slice Af lv6.length cf, .bool false, .int .i64 (-1), .int .i64 (-1)] 24 (0, 0)) from blk_below (put4 BKf.out (.slice Af lv6.length cf) (.bool false) (.int .i64 (-1)) (.int .i64 (-1))) hb)
  have n4_ := Aside0.mk (Kd.R_below (R4 HO4.out BKf.out (by decide) _ _ _ _) hb)
  have n5_ := Aside0.mk (Kd.R_below (R4 HOe.out BKf.out (by decide) _ _ _ _) hb)
  have n6_ := Aside0.mk (Kd.R_below (R4 HOf.out BKf.out (by decide) _ _ _ _) hb)
  clear HB BKd BKe BKf HO4 HOe HOf
  clear nee_f nef_e ce_0 ce_1 ce_2 ce_3 cf_0 cf_1 cf_2 cf_3 ff_0 ff_1 ff_2 ff_3
  have HB := n0_
  have BKd := n1_
  have BKe := n2_
  have BKf := n3_
  have HO4 := n4_
  have HOe := n5_
  have HOf := n6_
  clear n0_ n1_ n2_ n3_ n4_ n5_ n6_
  clear hb
  have cf_0 : wd11.cell? ⟨gf, 0, none⟩ = some (.slice Af lv6.length cf) := (blk_cell BKf.out 0).trans rfl
  have cf_1 : wd11.cell? ⟨gf, 1, none⟩ = some (.bool false) := (blk_cell BKf.out 1).trans rfl
  have cf_2 : wd11.cell? ⟨gf, 2, none⟩ = some (.int .i64 (-1)) := (blk_cell BKf.out 2).trans rfl
  have cf_3 : wd11.cell? ⟨gf, 3, none⟩ = some (.int .i64 (-1)) := (blk_cell BKf.out 3).trans rfl
  go_wp2_with fail
  refine ((disk_Read.calls Af cf lv6 (false) (-1) (-1) (⟨#[97]⟩) (⟨#[120, 121, 122]⟩) (0) _ (Kd.R_reads' HOf.out).2.2 (Kd.R_reads' HOf.out).2.1 lv6_8).mono ?_)
  rintro e wd12 ⟨rfl, hb⟩
  have n0_ := Aside0.mk (below_step HB.out hb)
  have n1_ := Aside0.mk (show wd12.heap[gd]? = some (.cells #[.slice A4 lv4.length c4, .bool false, .int .i64 (-1), .int .i64 (-1)] 24 (0, 0)) from blk_below BKd.out hb)
  have n2_ := Aside0.mk (show wd12.heap[ge]? = some (.cells #[.slice Ae lv3.length ce, .bool false, .int .i64 (-1), .int .i64 (-1)] 24 (0, 0)) from blk_below BKe.out hb)
  have n3_ := Aside0.mk (show wd12.heap[gf]? = some (.cells #[.slice Af lv6.length cf, .bool false, .int .i64 (-1), .int .i64 (-1)] 24 (0, 0)) from blk_below BKf.out hb)
  have n4_ := Aside0.mk (Kd.R_below HO4.out hb)
  have n5_ := Aside0.mk (Kd.R_below HOe.out hb)
  have n6_ := Aside0.mk (Kd.R_below HOf.out hb)
  clear HB BKd BKe BKf HO4 HOe HOf
  clear cf_0 cf_1 cf_2 cf_3
  have HB := n0_
  have BKd := n1_
  have BKe := n2_
  have BKf := n3_
  have HO4 := n4_
  have HOe := n5_
  have HOf := n6_
  clear n0_ n1_ n2_ n3_ n4_ n5_ n6_
  clear hb
  go_wp2_with fail
  go_ret
  exact ⟨rfl, HB.out⟩
end Go.Proofs.Ytanonhipicoigaa.T
