import Derived.Test.YtanonhipicoigaaGreatDoorZAac
import Derived.Test.YtanonhipicoigaaGreatDoorZAaf
import Derived.BigRegion
import Derived.LoopN
import Derived.Deep.DeepCutAuto
import Derived.Test.YtanonhipicoigaaGreatDoorRows
import Derived.Test.YtanonhipicoigaaGreatDoorZAad
import Derived.ProofKit
import Derived.LaidMore
import Derived.LaidLaws
import Derived.MakeChecks
import Derived.OpenShut
import Derived.Stop.Joined
namespace Go.Proofs.YtanonhipicoigaaGreatDoor.U
open Go.RowKit Go.Proofs.YtanonhipicoigaaGreatDoorW.PrintWords Go.Proofs.YtanonhipicoigaaGreatDoorW.PrintLast Go.Proofs.YtanonhipicoigaaGreatDoorW.PrintMore
attribute [local go_sem] max2_int min2_int max_two min_two max_three min_three max_four min_four   -- for this text's walks alone
set_option linter.unusedVariables false
set_option linter.unusedSimpArgs false
/-! ### penstockref10_Same: function 28 -/
def penstockref10_Same.f (k : Nat) (l0_0 : List (S67)) (a0_1 : Bool) (a0_2 : Int) (a0_3 : Int) (a0_4 : Int) (a0_5 : Int) (a0_6 : Int) (a0_7 : Bool) (l1_0 : List (S67)) (a1_1 : Bool) (a1_2 : Int) (a1_3 : Int) (a1_4 : Int) (a1_5 : Int) (a1_6 : Int) (a1_7 : Bool) : Option (Bool) := (penstockref09_Same.f k l0_0 a0_1 a0_2 a0_3 l1_0 a1_1 a1_2 a1_3).bind fun t175 => (if t175 = true then (if a0_4 = a1_4 then (if a0_5 = a1_5 then (if a0_6 = a1_6 then (some (a0_7 == a1_7)) else (some false)) else (some false)) else (some false)) else (some false))
theorem penstockref10_Same.mono : ∀ a0 a1 a2 a3 a4 a5 a6 a7 a8 a9 a10 a11 a12 a13 a14 a15 k, LeO (penstockref10_Same.f k a0 a1 a2 a3 a4 a5 a6 a7 a8 a9 a10 a11 a12 a13 a14 a15) (penstockref10_Same.f (k + 1) a0 a1 a2 a3 a4 a5 a6 a7 a8 a9 a10 a11 a12 a13 a14 a15) := by
  intro a0 a1 a2 a3 a4 a5 a6 a7 a8 a9 a10 a11 a12 a13 a14 a15 k
  unfold penstockref10_Same.f
  repeat' first
      | (with_reducible exact penstockref09_Same.mono _ _ _ _ _ _ _ _ _)
      | (with_reducible exact LeO.refl _)
      | (with_reducible exact LeO.none _)
      | (with_reducible refine LeO.ite ?_ ?_)
      | (with_reducible refine LeO.bind ?_ (fun _ => ?_))
      | exact penstockref09_Same.mono _ _ _ _ _ _ _ _ _
      | exact LeO.none _
      | refine LeO.ite ?_ ?_
      | refine LeO.bind ?_ (fun _ => ?_)
set_option maxHeartbeats 8000000 in
set_option maxRecDepth 100000 in
theorem penstockref10_Same.calls (k : Nat) (A0_0 : Option Addr) (c0_0 : Nat) (l0_0 : List (S67)) (a0_1 : Bool) (a0_2 : Int) (a0_3 : Int) (a0_4 : Int) (a0_5 : Int) (a0_6 : Int) (a0_7 : Bool) (A1_0 : Option Addr) (c1_0 : Nat) (l1_0 : List (S67)) (a1_1 : Bool) (a1_2 : Int) (a1_3 : Int) (a1_4 : Int) (a1_5 : Int) (a1_6 : Int) (a1_7 : Bool) (r : Bool) (w : World) (hr0_0 : Kd.C k67 w A0_0 l0_0.length l0_0) (hc0_0 : l0_0.length ≤ c0_0) (hr1_0 : Kd.C k67 w A1_0 l1_0.length l1_0) (hc1_0 : l1_0.length ≤ c1_0) (h : penstockref10_Same.f k l0_0 a0_1 a0_2 a0_3 a0_4 a0_5 a0_6 a0_7 l1_0 a1_1 a1_2 a1_3 a1_4 a1_5 a1_6 a1_7 = some r) :
    Calls Tryz.prog 28 #[.agg #[.slice A0_0 l0_0.length c0_0, .bool a0_1, .int .i64 a0_2, .int .i64 a0_3, .int .i64 a0_4, .int .u64 a0_5, .int .u64 a0_6, .bool a0_7], .agg #[.slice A1_0 l1_0.length c1_0, .bool a1_1, .int .i64 a1_2, .int .i64 a1_3, .int .i64 a1_4, .int .u64 a1_5, .int .u64 a1_6, .bool a1_7]] w fun e w' => e = .returned (.bool r) ∧ Below w.heap.size w w' := by
  have hu30 := Tryz.underlying30
  have hu27 := Tryz.underlying27
  have HR0_0 := Aside0.mk hr0_0
  have HC0_0 := Aside0.mk hc0_0
  clear hr0_0 hc0_0
  have HR1_0 := Aside0.mk hr1_0
  have HC1_0 := Aside0.mk hc1_0
  clear hr1_0 hc1_0
  have HB := Aside0.mk (Below.refl w.heap.size w)
  have H : ((penstockref09_Same.f k l0_0 a0_1 a0_2 a0_3 l1_0 a1_1 a1_2 a1_3).bind fun t175 => (if t175 = true then (if a0_4 = a1_4 then (if a0_5 = a1_5 then (if a0_6 = a1_6 then (some (a0_7 == a1_7)) else (some false)) else (some false)) else (some false)) else (some false))) = some r := h
  clear h
  replace H := Option.bind_eq_some_iff.mp H
  obtain ⟨t175, A30, H⟩ := H
  replace H : (if t175 = true then (if a0_4 = a1_4 then (if a0_5 = a1_5 then (if a0_6 = a1_6 then (some (a0_7 == a1_7)) else (some false)) else (some false)) else (some false)) else (some false)) = some r := H
  have A3 := Aside0.mk A30
  clear A30
  by_cases c4 : t175 = true
  · subst c4
    have H1 : (if a0_4 = a1_4 then (if a0_5 = a1_5 then (if a0_6 = a1_6 then (some (a0_7 == a1_7)) else (some false)) else (some false)) else (some false)) = some r := by rw [if_pos rfl] at H; exact H
    clear H
    have H := H1
    clear H1
    by_cases c5 : a0_4 = a1_4
    · rw [if_pos c5] at H
      have c5b0 : (a0_4 == a1_4) = true := beq_iff_eq.mpr c5
      have c5b1 : (a0_4 != a1_4) = false := bne_eq_false_iff_eq.mpr c5
      clear c5
      by_cases c6 : a0_5 = a1_5
      · rw [if_pos c6] at H
        have c6b0 : (a0_5 == a1_5) = true := beq_iff_eq.mpr c6
        have c6b1 : (a0_5 != a1_5) = false := bne_eq_false_iff_eq.mpr c6
        clear c6
        by_cases c7 : a0_6 = a1_6
        · rw [if_pos c7] at H
          have c7b0 : (a0_6 == a1_6) = true := beq_iff_eq.mpr c7
          have c7b1 : (a0_6 != a1_6) = false := bne_eq_false_iff_eq.mpr c7
          clear c7
          obtain rfl := Option.some.inj H
          go_enter Tryz.func28, Tryz.ntmps28
          go_wp2_with (first | ((with_reducible refine gate_dst (N := 2) rfl ?_); refine box_event ?hg (N := 2) ?hd (cs := #[.slice A0_0 l0_0.length c0_0, .bool a0_1, .int .i64 a0_2, .int .i64 a0_3, .int .i64 a0_4, .int .u64 a0_5, .int .u64 a0_6, .bool a0_7]) (t := 30) ?hr ?_; (case hd => rfl); (case hg => rfl); (case hr => first | (go_simp; done) | (go_simp; rfl)); intro gb173 hg w8 hbox hb; have n0_ := Aside0.mk (below_step (by repeat (first | (with_reducible first | exact HB.out | apply below_alloc | apply pw_below_drewN | apply below_drew1) | exact HB.out)) hb); have n1_ := Aside0.mk (hbox); have n2_ := Aside0.mk ((by rw [hg]; exact (below_size (by repeat (first | (with_reducible first | exact HB.out | apply below_alloc | apply pw_below_drewN | apply below_drew1) | exact HB.out))) : w.heap.size ≤ gb173)); have n3_ := Aside0.mk ((by rw [hg]; exact (below_size (by repeat (first | (with_reducible first | exact HB.out | apply below_alloc | apply pw_below_drewN | apply below_drew1) | exact HB.out))) : w.heap.size ≤ gb173)); clear HB; have HB := n0_; have BK173 := n1_; have GW173 := n2_; have GE173 := n3_; clear n0_ n1_ n2_ n3_; clear hb hbox hg) | ((with_reducible refine gate_dst (N := 3) rfl ?_); refine box_event ?hg (N := 3) ?hd (cs := #[.slice A1_0 l1_0.length c1_0, .bool a1_1, .int .i64 a1_2, .int .i64 a1_3, .int .i64 a1_4, .int .u64 a1_5, .int .u64 a1_6, .bool a1_7]) (t := 30) ?hr ?_; (case hd => rfl); (case hg => rfl); (case hr => first | (go_simp; done) | (go_simp; rfl)); intro gb174 hg w9 hbox hb; have n0_ := Aside0.mk (blk_below (g := gb173) (o := .cells #[.slice A0_0 l0_0.length c0_0, .bool a0_1, .int .i64 a0_2, .int .i64 a0_3, .int .i64 a0_4, .int .u64 a0_5, .int .u64 a0_6, .bool a0_7] 30 (0, 0)) (by (with_reducible repeat (first | refine blk_drewN ?_ _ | refine blk_drew ?_ | refine blk_alloc ?_ _)); exact BK173.out) hb); have n1_ := Aside0.mk (below_step (by repeat (first | (with_reducible first | exact HB.out | apply below_alloc | apply pw_below_drewN | apply below_drew1 | refine below_set ?_ GE173.out) | exact HB.out)) hb); have n2_ := Aside0.mk (hbox); have n3_ := Aside0.mk ((by rw [hg]; exact (below_size (by repeat (first | (with_reducible first | exact HB.out | apply below_alloc | apply pw_below_drewN | apply below_drew1 | refine below_set ?_ GE173.out) | exact HB.out))) : w.heap.size ≤ gb174)); have n4_ := Aside0.mk ((by rw [hg]; exact (below_size (by repeat (first | (with_reducible first | exact HB.out | apply below_alloc | apply pw_below_drewN | apply below_drew1 | refine below_set ?_ GE173.out) | exact HB.out))) : w.heap.size ≤ gb174)); have n5_ := Aside0.mk ((by rw [hg]; exact Nat.ne_of_lt (blk_lt (g := gb173) (o := .cells #[.slice A0_0 l0_0.length c0_0, .bool a0_1, .int .i64 a0_2, .int .i64 a0_3, .int .i64 a0_4, .int .u64 a0_5, .int .u64 a0_6, .bool a0_7] 30 (0, 0)) (by (with_reducible repeat (first | refine blk_drewN ?_ _ | refine blk_drew ?_ | refine blk_alloc ?_ _)); exact BK173.out)) : gb173 ≠ gb174)); have n6_ := Aside0.mk ((by rw [hg]; exact Nat.ne_of_gt (blk_lt (g := gb173) (o := .cells #[.slice A0_0 l0_0.length c0_0, .bool a0_1, .int .i64 a0_2, .int .i64 a0_3, .int .i64 a0_4, .int .u64 a0_5, .int .u64 a0_6, .bool a0_7] 30 (0, 0)) (by (with_reducible repeat (first | refine blk_drewN ?_ _ | refine blk_drew ?_ | refine blk_alloc ?_ _)); exact BK173.out)) : gb174 ≠ gb173)); clear BK173; clear HB; have BK173 := n0_; have HB := n1_; have BK174 := n2_; have GW174 := n3_; have GE174 := n4_; have NB173_174 := n5_; have NB174_173 := n6_; clear n0_ n1_ n2_ n3_ n4_ n5_ n6_; clear hb hbox hg; have hnb10 := NB173_174.out; have hnc10 := NB174_173.out; have hcz11_0 : w9.cell? ⟨gb173, 0, none⟩ = some (.slice A0_0 l0_0.length c0_0) := (blk_cell BK173.out 0).trans rfl; have hcz11_1 : w9.cell? ⟨gb173, 1, none⟩ = some (.bool a0_1) := (blk_cell BK173.out 1).trans rfl; have hcz11_2 : w9.cell? ⟨gb173, 2, none⟩ = some (.int .i64 a0_2) := (blk_cell BK173.out 2).trans rfl; have hcz11_3 : w9.cell? ⟨gb173, 3, none⟩ = some (.int .i64 a0_3) := (blk_cell BK173.out 3).trans rfl; have hcz11_4 : w9.cell? ⟨gb173, 4, none⟩ = some (.int .i64 a0_4) := (blk_cell BK173.out 4).trans rfl; have hcz11_5 : w9.cell? ⟨gb173, 5, none⟩ = some (.int .u64 a0_5) := (blk_cell BK173.out 5).trans rfl; have hcz11_6 : w9.cell? ⟨gb173, 6, none⟩ = some (.int .u64 a0_6) := (blk_cell BK173.out 6).trans rfl; have hcz11_7 : w9.cell? ⟨gb173, 7, none⟩ = some (.bool a0_7) := (blk_cell BK173.out 7).trans rfl; have hfz11_0 := blk_frozen BK173.out 0; have hfz11_1 := blk_frozen BK173.out 1; have hfz11_2 := blk_frozen BK173.out 2; have hfz11_3 := blk_frozen BK173.out 3; have hfz11_4 := blk_frozen BK173.out 4; have hfz11_5 := blk_frozen BK173.out 5; have hfz11_6 := blk_frozen BK173.out 6; have hfz11_7 := blk_frozen BK173.out 7; have hcz12_0 : w9.cell? ⟨gb174, 0, none⟩ = some (.slice A1_0 l1_0.length c1_0) := (blk_cell BK174.out 0).trans rfl; have hcz12_1 : w9.cell? ⟨gb174, 1, none⟩ = some (.bool a1_1) := (blk_cell BK174.out 1).trans rfl; have hcz12_2 : w9.cell? ⟨gb174, 2, none⟩ = some (.int .i64 a1_2) := (blk_cell BK174.out 2).trans rfl; have hcz12_3 : w9.cell? ⟨gb174, 3, none⟩ = some (.int .i64 a1_3) := (blk_cell BK174.out 3).trans rfl; have hcz12_4 : w9.cell? ⟨gb174, 4, none⟩ = some (.int .i64 a1_4) := (blk_cell BK174.out 4).trans rfl; have hcz12_5 : w9.cell? ⟨gb174, 5, none⟩ = some (.int .u64 a1_5) := (blk_cell BK174.out 5).trans rfl; have hcz12_6 : w9.cell? ⟨gb174, 6, none⟩ = some (.int .u64 a1_6) := (blk_cell BK174.out 6).trans rfl; have hcz12_7 : w9.cell? ⟨gb174, 7, none⟩ = some (.bool a1_7) := (blk_cell BK174.out 7).trans rfl; have hfz12_0 := blk_frozen BK174.out 0; have hfz12_1 := blk_frozen BK174.out 1; have hfz12_2 := blk_frozen BK174.out 2; have hfz12_3 := blk_frozen BK174.out 3; have hfz12_4 := blk_frozen BK174.out 4; have hfz12_5 := blk_frozen BK174.out 5; have hfz12_6 := blk_frozen BK174.out 6; have hfz12_7 := blk_frozen BK174.out 7) | ((with_reducible refine gate_callee (f := 75) rfl ?_); refine goesL_ (some 9) rfl rfl Tryz.func75 (by kernel_rfl) rfl #[.agg #[.slice A0_0 l0_0.length c0_0, .bool a0_1, .int .i64 a0_2, .int .i64 a0_3], .agg #[.slice A1_0 l1_0.length c1_0, .bool a1_1, .int .i64 a1_2, .int .i64 a1_3]] rfl (by (try simp only [List.map_toArray, List.map_cons, List.map_nil]); first | done | rfl | (simp only [List.length_drop, List.length_take]; rfl)) ?_; (with_reducible refine (penstockref09_Same.calls k _ _ l0_0 a0_1 a0_2 a0_3 _ _ l1_0 a1_1 a1_2 a1_3 true _ ?side1 ?side2 ?side3 ?side4 A3.out).mono ?_); (case side1 => repeat (first | exact (Kd.C_below HR0_0.out HB.out) | (with_reducible refine Kd.C_alloc ?_ _) | (with_reducible refine Kd.C_drewN ?_ _) | (with_reducible refine Kd.C_drew ?_))); (case side2 => exact HC0_0.out); (case side3 => repeat (first | exact (Kd.C_below HR1_0.out HB.out) | (with_reducible refine Kd.C_alloc ?_ _) | (with_reducible refine Kd.C_drewN ?_ _) | (with_reducible refine Kd.C_drew ?_))); (case side4 => exact HC1_0.out); rintro e w13 ⟨rfl, hb⟩; refine ⟨_, rfl, ?_⟩; have n0_ := Aside0.mk (blk_below (g := gb173) (o := .cells #[.slice A0_0 l0_0.length c0_0, .bool a0_1, .int .i64 a0_2, .int .i64 a0_3, .int .i64 a0_4, .int .u64 a0_5, .int .u64 a0_6, .bool a0_7] 30 (0, 0)) (by (with_reducible repeat (first | refine blk_drewN ?_ _ | refine blk_drew ?_ | refine blk_alloc ?_ _)); exact BK173.out) hb); have n1_ := Aside0.mk (blk_below (g := gb174) (o := .cells #[.slice A1_0 l1_0.length c1_0, .bool a1_1, .int .i64 a1_2, .int .i64 a1_3, .int .i64 a1_4, .int .u64 a1_5, .int .u64 a1_6, .bool a1_7] 30 (0, 0)) (by (with_reducible repeat (first | refine blk_drewN ?_ _ | refine blk_drew ?_ | refine blk_alloc ?_ _)); exact BK174.out) hb); have n2_ := Aside0.mk (below_step (by repeat (first | (with_reducible first | exact HB.out | apply below_alloc | apply pw_below_drewN | apply below_drew1 | refine below_set ?_ GE173.out | refine below_set ?_ GE174.out) | exact HB.out)) hb); clear BK173; clear BK174; clear HB; have BK173 := n0_; have BK174 := n1_; have HB := n2_; clear n0_ n1_ n2_; (try clear hb); (try clear hb2); (try clear hk); (try clear hi); have hcz14_0 : w13.cell? ⟨gb173, 0, none⟩ = some (.slice A0_0 l0_0.length c0_0) := (blk_cell BK173.out 0).trans rfl; have hcz14_1 : w13.cell? ⟨gb173, 1, none⟩ = some (.bool a0_1) := (blk_cell BK173.out 1).trans rfl; have hcz14_2 : w13.cell? ⟨gb173, 2, none⟩ = some (.int .i64 a0_2) := (blk_cell BK173.out 2).trans rfl; have hcz14_3 : w13.cell? ⟨gb173, 3, none⟩ = some (.int .i64 a0_3) := (blk_cell BK173.out 3).trans rfl; have hcz14_4 : w13.cell? ⟨gb173, 4, none⟩ = some (.int .i64 a0_4) := (blk_cell BK173.out 4).trans rfl; have hcz14_5 : w13.cell? ⟨gb173, 5, none⟩ = some (.int .u64 a0_5) := (blk_cell BK173.out 5).trans rfl; have hcz14_6 : w13.cell? ⟨gb173, 6, none⟩ = some (.int .u64 a0_6) := (blk_cell BK173.out 6).trans rfl; have hcz14_7 : w13.cell? ⟨gb173, 7, none⟩ = some (.bool a0_7) := (blk_cell BK173.out 7).trans rfl; have hfz14_0 := blk_frozen BK173.out 0; have hfz14_1 := blk_frozen BK173.out 1; have hfz14_2 := blk_frozen BK173.out 2; have hfz14_3 := blk_frozen BK173.out 3; have hfz14_4 := blk_frozen BK173.out 4; have hfz14_5 := blk_frozen BK173.out 5; have hfz14_6 := blk_frozen BK173.out 6; have hfz14_7 := blk_frozen BK173.out 7; have hcz15_0 : w13.cell? ⟨gb174, 0, none⟩ = some (.slice A1_0 l1_0.length c1_0) := (blk_cell BK174.out 0).trans rfl; have hcz15_1 : w13.cell? ⟨gb174, 1, none⟩ = some (.bool a1_1) := (blk_cell BK174.out 1).trans rfl; have hcz15_2 : w13.cell? ⟨gb174, 2, none⟩ = some (.int .i64 a1_2) := (blk_cell BK174.out 2).trans rfl; have hcz15_3 : w13.cell? ⟨gb174, 3, none⟩ = some (.int .i64 a1_3) := (blk_cell BK174.out 3).trans rfl; have hcz15_4 : w13.cell? ⟨gb174, 4, none⟩ = some (.int .i64 a1_4) := (blk_cell BK174.out 4).trans rfl; have hcz15_5 : w13.cell? ⟨gb174, 5, none⟩ = some (.int .u64 a1_5) := (blk_cell BK174.out 5).trans rfl; have hcz15_6 : w13.cell? ⟨gb174, 6, none⟩ = some (.int .u64 a1_6) := (blk_cell BK174.out 6).trans rfl; have hcz15_7 : w13.cell? ⟨gb174, 7, none⟩ = some (.bool a1_7) := (blk_cell BK174.out 7).trans rfl; have hfz15_0 := blk_frozen BK174.out 0; have hfz15_1 := blk_frozen BK174.out 1; have hfz15_2 := blk_frozen BK174.out 2; have hfz15_3 := blk_frozen BK174.out 3; have hfz15_4 := blk_frozen BK174.out 4; have hfz15_5 := blk_frozen BK174.out 5; have hfz15_6 := blk_frozen BK174.out 6; have hfz15_7 := blk_frozen BK174.out 7))
          go_ret
          exact ⟨by first | rfl | (simp [errW_none, errW_some] <;> rfl) | (simp [*, errW_none, errW_some] <;> rfl), by repeat (first | (with_reducible first | exact HB.out | apply below_alloc | apply pw_below_drewN | apply below_drew1 | refine below_set ?_ GE173.out | refine below_set ?_ GE174.out) | exact HB.out)⟩
        · rw [if_neg c7] at H
          have c7b0 : (a0_6 == a1_6) = false := beq_eq_false_iff_ne.mpr c7
          have c7b1 : (a0_6 != a1_6) = true := bne_iff_ne.mpr c7
          obtain rfl := Option.some.inj H
          go_enter Tryz.func28, Tryz.ntmps28
          go_wp2_with (first | ((with_reducible refine gate_dst (N := 2) rfl ?_); refine box_event ?hg (N := 2) ?hd (cs := #[.slice A0_0 l0_0.length c0_0, .bool a0_1, .int .i64 a0_2, .int .i64 a0_3, .int .i64 a0_4, .int .u64 a0_5, .int .u64 a0_6, .bool a0_7]) (t := 30) ?hr ?_; (case hd => rfl); (case hg => rfl); (case hr => first | (go_simp; done) | (go_simp; rfl)); intro gb173 hg w16 hbox hb; have n0_ := Aside0.mk (below_step (by repeat (first | (with_reducible first | exact HB.out | apply below_alloc | apply pw_below_drewN | apply below_drew1) | exact HB.out)) hb); have n1_ := Aside0.mk (hbox); have n2_ := Aside0.mk ((by rw [hg]; exact (below_size (by repeat (first | (with_reducible first | exact HB.out | apply below_alloc | apply pw_below_drewN | apply below_drew1) | exact HB.out))) : w.heap.size ≤ gb173)); have n3_ := Aside0.mk ((by rw [hg]; exact (below_size (by repeat (first | (with_reducible first | exact HB.out | apply below_alloc | apply pw_below_drewN | apply below_drew1) | exact HB.out))) : w.heap.size ≤ gb173)); clear HB; have HB := n0_; have BK173 := n1_; have GW173 := n2_; have GE173 := n3_; clear n0_ n1_ n2_ n3_; clear hb hbox hg) | ((with_reducible refine gate_dst (N := 3) rfl ?_); refine box_event ?hg (N := 3) ?hd (cs := #[.slice A1_0 l1_0.length c1_0, .bool a1_1, .int .i64 a1_2, .int .i64 a1_3, .int .i64 a1_4, .int .u64 a1_5, .int .u64 a1_6, .bool a1_7]) (t := 30) ?hr ?_; (case hd => rfl); (case hg => rfl); (case hr => first | (go_simp; done) | (go_simp; rfl)); intro gb174 hg w17 hbox hb; have n0_ := Aside0.mk (blk_below (g := gb173) (o := .cells #[.slice A0_0 l0_0.length c0_0, .bool a0_1, .int .i64 a0_2, .int .i64 a0_3, .int .i64 a0_4, .int .u64 a0_5, .int .u64 a0_6, .bool a0_7] 30 (0, 0)) (by (with_reducible repeat (first | refine blk_drewN ?_ _ | refine blk_drew ?_ | refine blk_alloc ?_ _)); exact BK173.out) hb); have n1_ := Aside0.mk (below_step (by repeat (first | (with_reducible first | exact HB.out | apply below_alloc | apply pw_below_drewN | apply below_drew1 | refine below_set ?_ GE173.out) | exact HB.out)) hb); have n2_ := Aside0.mk (hbox); have n3_ := Aside0.mk ((by rw [hg]; exact (below_size (by repeat (first | (with_reducible first | exact HB.out | apply below_alloc | apply pw_below_drewN | apply below_drew1 | refine below_set ?_ GE173.out) | exact HB.out))) : w.heap.size ≤ gb174)); have n4_ := Aside0.mk ((by rw [hg]; exact (below_size (by repeat (first | (with_reducible first | exact HB.out | apply below_alloc | apply pw_below_drewN | apply below_drew1 | refine below_set ?_ GE173.out) | exact HB.out))) : w.heap.size ≤ gb174)); have n5_ := Aside0.mk ((by rw [hg]; exact Nat.ne_of_lt (blk_lt (g := gb173) (o := .cells #[.slice A0_0 l0_0.length c0_0, .bool a0_1, .int .i64 a0_2, .int .i64 a0_3, .int .i64 a0_4, .int .u64 a0_5, .int .u64 a0_6, .bool a0_7] 30 (0, 0)) (by (with_reducible repeat (first | refine blk_drewN ?_ _ | refine blk_drew ?_ | refine blk_alloc ?_ _)); exact BK173.out)) : gb173 ≠ gb174)); have n6_ := Aside0.mk ((by rw [hg]; exact Nat.ne_of_gt (blk_lt (g := gb173) (o := .cells #[.slice A0_0 l0_0.length c0_0, .bool a0_1, .int .i64 a0_2, .int .i64 a0_3, .int .i64 a0_4, .int .u64 a0_5, .int .u64 a0_6, .bool a0_7] 30 (0, 0)) (by (with_reducible repeat (first | refine blk_drewN ?_ _ | refine blk_drew ?_ | refine blk_alloc ?_ _)); exact BK173.out)) : gb174 ≠ gb173)); clear BK173; clear HB; have BK173 := n0_; have HB := n1_; have BK174 := n2_; have GW174 := n3_; have GE174 := n4_; have NB173_174 := n5_; have NB174_173 := n6_; clear n0_ n1_ n2_ n3_ n4_ n5_ n6_; clear hb hbox hg; have hnb18 := NB173_174.out; have hnc18 := NB174_173.out; have hcz19_0 : w17.cell? ⟨gb173, 0, none⟩ = some (.slice A0_0 l0_0.length c0_0) := (blk_cell BK173.out 0).trans rfl; have hcz19_1 : w17.cell? ⟨gb173, 1, none⟩ = some (.bool a0_1) := (blk_cell BK173.out 1).trans rfl; have hcz19_2 : w17.cell? ⟨gb173, 2, none⟩ = some (.int .i64 a0_2) := (blk_cell BK173.out 2).trans rfl; have hcz19_3 : w17.cell? ⟨gb173, 3, none⟩ = some (.int .i64 a0_3) := (blk_cell BK173.out 3).trans rfl; have hcz19_4 : w17.cell? ⟨gb173, 4, none⟩ = some (.int .i64 a0_4) := (blk_cell BK173.out 4).trans rfl; have hcz19_5 : w17.cell? ⟨gb173, 5, none⟩ = some (.int .u64 a0_5) := (blk_cell BK173.out 5).trans rfl; have hcz19_6 : w17.cell? ⟨gb173, 6, none⟩ = some (.int .u64 a0_6) := (blk_cell BK173.out 6).trans rfl; have hcz19_7 : w17.cell? ⟨gb173, 7, none⟩ = some (.bool a0_7) := (blk_cell BK173.out 7).trans rfl; have hfz19_0 := blk_frozen BK173.out 0; have hfz19_1 := blk_frozen BK173.out 1; have hfz19_2 := blk_frozen BK173.out 2; have hfz19_3 := blk_frozen BK173.out 3; have hfz19_4 := blk_frozen BK173.out 4; have hfz19_5 := blk_frozen BK173.out 5; have hfz19_6 := blk_frozen BK173.out 6; have hfz19_7 := blk_frozen BK173.out 7; have hcz20_0 : w17.cell? ⟨gb174, 0, none⟩ = some (.slice A1_0 l1_0.length c1_0) := (blk_cell BK174.out 0).trans rfl; have hcz20_1 : w17.cell? ⟨gb174, 1, none⟩ = some (.bool a1_1) := (blk_cell BK174.out 1).trans rfl; have hcz20_2 : w17.cell? ⟨gb174, 2, none⟩ = some (.int .i64 a1_2) := (blk_cell BK174.out 2).trans rfl; have hcz20_3 : w17.cell? ⟨gb174, 3, none⟩ = some (.int .i64 a1_3) := (blk_cell BK174.out 3).trans rfl; have hcz20_4 : w17.cell? ⟨gb174, 4, none⟩ = some (.int .i64 a1_4) := (blk_cell BK174.out 4).trans rfl; have hcz20_5 : w17.cell? ⟨gb174, 5, none⟩ = some (.int .u64 a1_5) := (blk_cell BK174.out 5).trans rfl; have hcz20_6 : w17.cell? ⟨gb174, 6, none⟩ = some (.int .u64 a1_6) := (blk_cell BK174.out 6).trans rfl; have hcz20_7 : w17.cell? ⟨gb174, 7, none⟩ = some (.bool a1_7) := (blk_cell BK174.out 7).trans rfl; have hfz20_0 := blk_frozen BK174.out 0; have hfz20_1 := blk_frozen BK174.out 1; have hfz20_2 := blk_frozen BK174.out 2; have hfz20_3 := blk_frozen BK174.out 3; have hfz20_4 := blk_frozen BK174.out 4; have hfz20_5 := blk_frozen BK174.out 5; have hfz20_6 := blk_frozen BK174.out 6; have hfz20_7 := blk_frozen BK174.out 7) | ((with_reducible refine gate_callee (f := 75) rfl ?_); refine goesL_ (some 9) rfl rfl Tryz.func75 (by kernel_rfl) rfl #[.agg #[.slice A0_0 l0_0.length c0_0, .bool a0_1, .int .i64 a0_2, .int .i64 a0_3], .agg #[.slice A1_0 l1_0.length c1_0, .bool a1_1, .int .i64 a1_2, .int .i64 a1_3]] rfl (by (try simp only [List.map_toArray, List.map_cons, List.map_nil]); first | done | rfl | (simp only [List.length_drop, List.length_take]; rfl)) ?_; (with_reducible refine (penstockref09_Same.calls k _ _ l0_0 a0_1 a0_2 a0_3 _ _ l1_0 a1_1 a1_2 a1_3 true _ ?side1 ?side2 ?side3 ?side4 A3.out).mono ?_); (case side1 => repeat (first | exact (Kd.C_below HR0_0.out HB.out) | (with_reducible refine Kd.C_alloc ?_ _) | (with_reducible refine Kd.C_drewN ?_ _) | (with_reducible refine Kd.C_drew ?_))); (case side2 => exact HC0_0.out); (case side3 => repeat (first | exact (Kd.C_below HR1_0.out HB.out) | (with_reducible refine Kd.C_alloc ?_ _) | (with_reducible refine Kd.C_drewN ?_ _) | (with_reducible refine Kd.C_drew ?_))); (case side4 => exact HC1_0.out); rintro e w21 ⟨rfl, hb⟩; refine ⟨_, rfl, ?_⟩; have n0_ := Aside0.mk (blk_below (g := gb173) (o := .cells #[.slice A0_0 l0_0.length c0_0, .bool a0_1, .int .i64 a0_2, .int .i64 a0_3, .int .i64 a0_4, .int .u64 a0_5, .int .u64 a0_6, .bool a0_7] 30 (0, 0)) (by (with_reducible repeat (first | refine blk_drewN ?_ _ | refine blk_drew ?_ | refine blk_alloc ?_ _)); exact BK173.out) hb); have n1_ := Aside0.mk (blk_below (g := gb174) (o := .cells #[.slice A1_0 l1_0.length c1_0, .bool a1_1, .int .i64 a1_2, .int .i64 a1_3, .int .i64 a1_4, .int .u64 a1_5, .int .u64 a1_6, .bool a1_7] 30 (0, 0)) (by (with_reducible repeat (first | refine blk_drewN ?_ _ | refine blk_drew ?_ | refine blk_alloc ?_ _)); exact BK174.out) hb); have n2_ := Aside0.mk (below_step (by repeat (first | (with_reducible first | exact HB.out | apply below_alloc | apply pw_below_drewN | apply below_drew1 | refine below_set ?_ GE173.out | refine below_set ?_ GE174.out) | exact HB.out)) hb); clear BK173; clear BK174; clear HB; have BK173 := n0_; have BK174 := n1_; have HB := n2_; clear n0_ n1_ n2_; (try clear hb); (try clear hb2); (try clear hk); (try clear hi); have hcz22_0 : w21.cell? ⟨gb173, 0, none⟩ = some (.slice A0_0 l0_0.length c0_0) := (blk_cell BK173.out 0).trans rfl; have hcz22_1 : w21.cell? ⟨gb173, 1, none⟩ = some (.bool a0_1) := (blk_cell BK173.out 1).trans rfl; have hcz22_2 : w21.cell? ⟨gb173, 2, none⟩ = some (.int .i64 a0_2) := (blk_cell BK173.out 2).trans rfl; have hcz22_3 : w21.cell? ⟨gb173, 3, none⟩ = some (.int .i64 a0_3) := (blk_cell BK173.out 3).trans rfl; have hcz22_4 : w21.cell? ⟨gb173, 4, none⟩ = some (.int .i64 a0_4) := (blk_cell BK173.out 4).trans rfl; have hcz22_5 : w21.cell? ⟨gb173, 5, none⟩ = some (.int .u64 a0_5) := (blk_cell BK173.out 5).trans rfl; have hcz22_6 : w21.cell? ⟨gb173, 6, none⟩ = some (.int .u64 a0_6) := (blk_cell BK173.out 6).trans rfl; have hcz22_7 : w21.cell? ⟨gb173, 7, none⟩ = some (.bool a0_7) := (blk_cell BK173.out 7).trans rfl; have hfz22_0 := blk_frozen BK173.out 0; have hfz22_1 := blk_frozen BK173.out 1; have hfz22_2 := blk_frozen BK173.out 2; have hfz22_3 := blk_frozen BK173.out 3; have hfz22_4 := blk_frozen BK173.out 4; have hfz22_5 := blk_frozen BK173.out 5; have hfz22_6 := blk_frozen BK173.out 6; have hfz22_7 := blk_frozen BK173.out 7; have hcz23_0 : w21.cell? ⟨gb174, 0, none⟩ = some (.slice A1_0 l1_0.length c1_0) := (blk_cell BK174.out 0).trans rfl; have hcz23_1 : w21.cell? ⟨gb174, 1, none⟩ = some (.bool a1_1) := (blk_cell BK174.out 1).trans rfl; have hcz23_2 : w21.cell? ⟨gb174, 2, none⟩ = some (.int .i64 a1_2) := (blk_cell BK174.out 2).trans rfl; have hcz23_3 : w21.cell? ⟨gb174, 3, none⟩ = some (.int .i64 a1_3) := (blk_cell BK174.out 3).trans rfl; have hcz23_4 : w21.cell? ⟨gb174, 4, none⟩ = some (.int .i64 a1_4) := (blk_cell BK174.out 4).trans rfl; have hcz23_5 : w21.cell? ⟨gb174, 5, none⟩ = some (.int .u64 a1_5) := (blk_cell BK174.out 5).trans rfl; have hcz23_6 : w21.cell? ⟨gb174, 6, none⟩ = some (.int .u64 a1_6) := (blk_cell BK174.out 6).trans rfl; have hcz23_7 : w21.cell? ⟨gb174, 7, none⟩ = some (.bool a1_7) := (blk_cell BK174.out 7).trans rfl; have hfz23_0 := blk_frozen BK174.out 0; have hfz23_1 := blk_frozen BK174.out 1; have hfz23_2 := blk_frozen BK174.out 2; have hfz23_3 := blk_frozen BK174.out 3; have hfz23_4 := blk_frozen BK174.out 4; have hfz23_5 := blk_frozen BK174.out 5; have hfz23_6 := blk_frozen BK174.out 6; have hfz23_7 := blk_frozen BK174.out 7))
          go_ret
          exact ⟨by first | rfl | (simp [errW_none, errW_some] <;> rfl) | (simp [*, errW_none, errW_some] <;> rfl), by repeat (first | (with_reducible first | exact HB.out | apply below_alloc | apply pw_below_drewN | apply below_drew1 | refine below_set ?_ GE173.out | refine below_set ?_ GE174.out) | exact HB.out)⟩
      · rw [if_neg c6] at H
        have c6b0 : (a0_5 == a1_5) = false := beq_eq_false_iff_ne.mpr c6
        have c6b1 : (a0_5 != a1_5) = true := bne_iff_ne.mpr c6
        obtain rfl := Option.some.inj H
        go_enter Tryz.func28, Tryz.ntmps28
        go_wp2_with (first | ((with_reducible refine gate_dst (N := 2) rfl ?_); refine box_event ?hg (N := 2) ?hd (cs := #[.slice A0_0 l0_0.length c0_0, .bool a0_1, .int .i64 a0_2, .int .i64 a0_3, .int .i64 a0_4, .int .u64 a0_5, .int .u64 a0_6, .bool a0_7]) (t := 30) ?hr ?_; (case hd => rfl); (case hg => rfl); (case hr => first | (go_simp; done) | (go_simp; rfl)); intro gb173 hg w24 hbox hb; have n0_ := Aside0.mk (below_step (by repeat (first | (with_reducible first | exact HB.out | apply below_alloc | apply pw_below_drewN | apply below_drew1) | exact HB.out)) hb); have n1_ := Aside0.mk (hbox); have n2_ := Aside0.mk ((by rw [hg]; exact (below_size (by repeat (first | (with_reducible first | exact HB.out | apply below_alloc | apply pw_below_drewN | apply below_drew1) | exact HB.out))) : w.heap.size ≤ gb173)); have n3_ := Aside0.mk ((by rw [hg]; exact (below_size (by repeat (first | (with_reducible first | exact HB.out | apply below_alloc | apply pw_below_drewN | apply below_drew1) | exact HB.out))) : w.heap.size ≤ gb173)); clear HB; have HB := n0_; have BK173 := n1_; have GW173 := n2_; have GE173 := n3_; clear n0_ n1_ n2_ n3_; clear hb hbox hg) | ((with_reducible refine gate_dst (N := 3) rfl ?_); refine box_event ?hg (N := 3) ?hd (cs := #[.slice A1_0 l1_0.length c1_0, .bool a1_1, .int .i64 a1_2, .int .i64 a1_3, .int .i64 a1_4, .int .u64 a1_5, .int .u64 a1_6, .bool a1_7]) (t := 30) ?hr ?_; (case hd => rfl); (case hg => rfl); (case hr => first | (go_simp; done) | (go_simp; rfl)); intro gb174 hg w25 hbox hb; have n0_ := Aside0.mk (blk_below (g := gb173) (o := .cells #[.slice A0_0 l0_0.length c0_0, .bool a0_1, .int .i64 a0_2, .int .i64 a0_3, .int .i64 a0_4, .int .u64 a0_5, .int .u64 a0_6, .bool a0_7] 30 (0, 0)) (by (with_reducible repeat (first | refine blk_drewN ?_ _ | refine blk_drew ?_ | refine blk_alloc ?_ _)); exact BK173.out) hb); have n1_ := Aside0.mk (below_step (by repeat (first | (with_reducible first | exact HB.out | apply below_alloc | apply pw_below_drewN | apply below_drew1 | refine below_set ?_ GE173.out) | exact HB.out)) hb); have n2_ := Aside0.mk (hbox); have n3_ := Aside0.mk ((by rw [hg]; exact (below_size (by repeat (first | (with_reducible first | exact HB.out | apply below_alloc | apply pw_below_drewN | apply below_drew1 | refine below_set ?_ GE173.out) | exact HB.out))) : w.heap.size ≤ gb174)); have n4_ := Aside0.mk ((by rw [hg]; exact (below_size (by repeat (first | (with_reducible first | exact HB.out | apply below_alloc | apply pw_below_drewN | apply below_drew1 | refine below_set ?_ GE173.out) | exact HB.out))) : w.heap.size ≤ gb174)); have n5_ := Aside0.mk ((by rw [hg]; exact Nat.ne_of_lt (blk_lt (g := gb173) (o := .cells #[.slice A0_0 l0_0.length c0_0, .bool a0_1, .int .i64 a0_2, .int .i64 a0_3, .int .i64 a0_4, .int .u64 a0_5, .int .u64 a0_6, .bool a0_7] 30 (0, 0)) (by (with_reducible repeat (first | refine blk_drewN ?_ _ | refine blk_drew ?_ | refine blk_alloc ?_ _)); exact BK173.out)) : gb173 ≠ gb174)); have n6_ := Aside0.mk ((by rw [hg]; exact Nat.ne_of_gt (blk_lt (g := gb173) (o := .cells #[.slice A0_0 l0_0.length c0_0, .bool a0_1, .int .i64 a0_2, .int .i64 a0_3, .int .i64 a0_4, .int .u64 a0_5, .int .u64 a0_6, .bool a0_7] 30 (0, 0)) (by (with_reducible repeat (first | refine blk_drewN ?_ _ | refine blk_drew ?_ | refine blk_alloc ?_ _)); exact BK173.out)) : gb174 ≠ gb173)); clear BK173; clear HB; have BK173 := n0_; have HB := n1_; have BK174 := n2_; have GW174 := n3_; have GE174 := n4_; have NB173_174 := n5_; have NB174_173 := n6_; clear n0_ n1_ n2_ n3_ n4_ n5_ n6_; clear hb hbox hg; have hnb26 := NB173_174.out; have hnc26 := NB174_173.out; have hcz27_0 : w25.cell? ⟨gb173, 0, none⟩ = some (.slice A0_0 l0_0.length c0_0) := (blk_cell BK173.out 0).trans rfl; have hcz27_1 : w25.cell? ⟨gb173, 1, none⟩ = some (.bool a0_1) := (blk_cell BK173.out 1).trans rfl; have hcz27_2 : w25.cell? ⟨gb173, 2, none⟩ = some (.int .i64 a0_2) := (blk_cell BK173.out 2).trans rfl; have hcz27_3 : w25.cell? ⟨gb173, 3, none⟩ = some (.int .i64 a0_3) := (blk_cell BK173.out 3).trans rfl; have hcz27_4 : w25.cell? ⟨gb173, 4, none⟩ = some (.int .i64 a0_4) := (blk_cell BK173.out 4).trans rfl; have hcz27_5 : w25.cell? ⟨gb173, 5, none⟩ = some (.int .u64 a0_5) := (blk_cell BK173.out 5).trans rfl; have hcz27_6 : w25.cell? ⟨gb173, 6, none⟩ = some (.int .u64 a0_6) := (blk_cell BK173.out 6).trans rfl; have hcz27_7 : w25.cell? ⟨gb173, 7, none⟩ = some (.bool a0_7) := (blk_cell BK173.out 7).trans rfl; have hfz27_0 := blk_frozen BK173.out 0; have hfz27_1 := blk_frozen BK173.out 1; have hfz27_2 := blk_frozen BK173.out 2; have hfz27_3 := blk_frozen BK173.out 3; have hfz27_4 := blk_frozen BK173.out 4; have hfz27_5 := blk_frozen BK173.out 5; have hfz27_6 := blk_frozen BK173.out 6; have hfz27_7 := blk_frozen BK173.out 7; have hcz28_0 : w25.cell? ⟨gb174, 0, none⟩ = some (.slice A1_0 l1_0.length c1_0) := (blk_cell BK174.out 0).trans rfl; have hcz28_1 : w25.cell? ⟨gb174, 1, none⟩ = some (.bool a1_1) := (blk_cell BK174.out 1).trans rfl; have hcz28_2 : w25.cell? ⟨gb174, 2, none⟩ = some (.int .i64 a1_2) := (blk_cell BK174.out 2).trans rfl; have hcz28_3 : w25.cell? ⟨gb174, 3, none⟩ = some (.int .i64 a1_3) := (blk_cell BK174.out 3).trans rfl; have hcz28_4 : w25.cell? ⟨gb174, 4, none⟩ = some (.int .i64 a1_4) := (blk_cell BK174.out 4).trans rfl; have hcz28_5 : w25.cell? ⟨gb174, 5, none⟩ = some (.int .u64 a1_5) := (blk_cell BK174.out 5).trans rfl; have hcz28_6 : w25.cell? ⟨gb174, 6, none⟩ = some (.int .u64 a1_6) := (blk_cell BK174.out 6).trans rfl; have hcz28_7 : w25.cell? ⟨gb174, 7, none⟩ = some (.bool a1_7) := (blk_cell BK174.out 7).trans rfl; have hfz28_0 := blk_frozen BK174.out 0; have hfz28_1 := blk_frozen BK174.out 1; have hfz28_2 := blk_frozen BK174.out 2; have hfz28_3 := blk_frozen BK174.out 3; have hfz28_4 := blk_frozen BK174.out 4; have hfz28_5 := blk_frozen BK174.out 5; have hfz28_6 := blk_frozen BK174.out 6; have hfz28_7 := blk_frozen BK174.out 7) | ((with_reducible refine gate_callee (f := 75) rfl ?_); refine goesL_ (some 9) rfl rfl Tryz.func75 (by kernel_rfl) rfl #[.agg #[.slice A0_0 l0_0.length c0_0, .bool a0_1, .int .i64 a0_2, .int .i64 a0_3], .agg #[.slice A1_0 l1_0.length c1_0, .bool a1_1, .int .i64 a1_2, .int .i64 a1_3]] rfl (by (try simp only [List.map_toArray, List.map_cons, List.map_nil]); first | done | rfl | (simp only [List.length_drop, List.length_take]; rfl)) ?_; (with_reducible refine (penstockref09_Same.calls k _ _ l0_0 a0_1 a0_2 a0_3 _ _ l1_0 a1_1 a1_2 a1_3 true _ ?side1 ?side2 ?side3 ?side4 A3.out).mono ?_); (case side1 => repeat (first | exact (Kd.C_below HR0_0.out HB.out) | (with_reducible refine Kd.C_alloc ?_ _) | (with_reducible refine Kd.C_drewN ?_ _) | (with_reducible refine Kd.C_drew ?_))); (case side2 => exact HC0_0.out); (case side3 => repeat (first | exact (Kd.C_below HR1_0.out HB.out) | (with_reducible refine Kd.C_alloc ?_ _) | (with_reducible refine Kd.C_drewN ?_ _) | (with_reducible refine Kd.C_drew ?_))); (case side4 => exact HC1_0.out); rintro e w29 ⟨rfl, hb⟩; refine ⟨_, rfl, ?_⟩; have n0_ := Aside0.mk (blk_below (g := gb173) (o := .cells #[.slice A0_0 l0_0.length c0_0, .bool a0_1, .int .i64 a0_2, .int .i64 a0_3, .int .i64 a0_4, .int .u64 a0_5, .int .u64 a0_6, .bool a0_7] 30 (0, 0)) (by (with_reducible repeat (first | refine blk_drewN ?_ _ | refine blk_drew ?_ | refine blk_alloc ?_ _)); exact BK173.out) hb); have n1_ := Aside0.mk (blk_below (g := gb174) (o := .cells #[.slice A1_0 l1_0.length c1_0, .bool a1_1, .int .i64 a1_2, .int .i64 a1_3, .int .i64 a1_4, .int .u64 a1_5, .int .u64 a1_6, .bool a1_7] 30 (0, 0)) (by (with_reducible repeat (first | refine blk_drewN ?_ _ | refine blk_drew ?_ | refine blk_alloc ?_ _)); exact BK174.out) hb); have n2_ := Aside0.mk (below_step (by repeat (first | (with_reducible first | exact HB.out | apply below_alloc | apply pw_below_drewN | apply below_drew1 | refine below_set ?_ GE173.out | refine below_set ?_ GE174.out) | exact HB.out)) hb); clear BK173; clear BK174; clear HB; have BK173 := n0_; have BK174 := n1_; have HB := n2_; clear n0_ n1_ n2_; (try clear hb); (try clear hb2); (try clear hk); (try clear hi); have hcz30_0 : w29.cell? ⟨gb173, 0, none⟩ = some (.slice A0_0 l0_0.length c0_0) := (blk_cell BK173.out 0).trans rfl; have hcz30_1 : w29.cell? ⟨gb173, 1, none⟩ = some (.bool a0_1) := (blk_cell BK173.out 1).trans rfl; have hcz30_2 : w29.cell? ⟨gb173, 2, none⟩ = some (.int .i64 a0_2) := (blk_cell BK173.out 2).trans rfl; have hcz30_3 : w29.cell? ⟨gb173, 3, none⟩ = some (.int .i64 a0_3) := (blk_cell BK173.out 3).trans rfl; have hcz30_4 : w29.cell? ⟨gb173, 4, none⟩ = some (.int .i64 a0_4) := (blk_cell BK173.out 4).trans rfl; have hcz30_5 : w29.cell? ⟨gb173, 5, none⟩ = some (.int .u64 a0_5) := (blk_cell BK173.out 5).trans rfl; have hcz30_6 : w29.cell? ⟨gb173, 6, none⟩ = some (.int .u64 a0_6) := (blk_cell BK173.out 6).trans rfl; have hcz30_7 : w29.cell? ⟨gb173, 7, none⟩ = some (.bool a0_7) := (blk_cell BK173.out 7).trans rfl; have hfz30_0 := blk_frozen BK173.out 0; have hfz30_1 := blk_frozen BK173.out 1; have hfz30_2 := blk_frozen BK173.out 2; have hfz30_3 := blk_frozen BK173.out 3; have hfz30_4 := blk_frozen BK173.out 4; have hfz30_5 := blk_frozen BK173.out 5; have hfz30_6 := blk_frozen BK173.out 6; have hfz30_7 := blk_frozen BK173.out 7; have hcz31_0 : w29.cell? ⟨gb174, 0, none⟩ = some (.slice A1_0 l1_0.length c1_0) := (blk_cell BK174.out 0).trans rfl; have hcz31_1 : w29.cell? ⟨gb174, 1, none⟩ = some (.bool a1_1) := (blk_cell BK174.out 1).trans rfl; have hcz31_2 : w29.cell? ⟨gb174, 2, none⟩ = some (.int .i64 a1_2) := (blk_cell BK174.out 2).trans rfl; have hcz31_3 : w29.cell? ⟨gb174, 3, none⟩ = some (.int .i64 a1_3) := (blk_cell BK174.out 3).trans rfl; have hcz31_4 : w29.cell? ⟨gb174, 4, none⟩ = some (.int .i64 a1_4) := (blk_cell BK174.out 4).trans rfl; have hcz31_5 : w29.cell? ⟨gb174, 5, none⟩ = some (.int .u64 a1_5) := (blk_cell BK174.out 5).trans rfl; have hcz31_6 : w29.cell? ⟨gb174, 6, none⟩ = some (.int .u64 a1_6) := (blk_cell BK174.out 6).trans rfl; have hcz31_7 : w29.cell? ⟨gb174, 7, none⟩ = some (.bool a1_7) := (blk_cell BK174.out 7).trans rfl; have hfz31_0 := blk_frozen BK174.out 0; have hfz31_1 := blk_frozen BK174.out 1; have hfz31_2 := blk_frozen BK174.out 2; have hfz31_3 := blk_frozen BK174.out 3; have hfz31_4 := blk_frozen BK174.out 4; have hfz31_5 := blk_frozen BK174.out 5; have hfz31_6 := blk_frozen BK174.out 6; have hfz31_7 := blk_frozen BK174.out 7))
        go_ret
        exact ⟨by first | rfl | (simp [errW_none, errW_some] <;> rfl) | (simp [*, errW_none, errW_some] <;> rfl), by repeat (first | (with_reducible first | exact HB.out | apply below_alloc | apply pw_below_drewN | apply below_drew1 | refine below_set ?_ GE173.out | refine below_set ?_ GE174.out) | exact HB.out)⟩
    · rw [if_neg c5] at H
      have c5b0 : (a0_4 == a1_4) = false := beq_eq_false_iff_ne.mpr c5
      have c5b1 : (a0_4 != a1_4) = true := bne_iff_ne.mpr c5
      obtain rfl := Option.some.inj H
      go_enter Tryz.func28, Tryz.ntmps28
      go_wp2_with (first | ((with_reducible refine gate_dst (N := 2) rfl ?_); refine box_event ?hg (N := 2) ?hd (cs := #[.slice A0_0 l0_0.length c0_0, .bool a0_1, .int .i64 a0_2, .int .i64 a0_3, .int .i64 a0_4, .int .u64 a0_5, .int .u64 a0_6, .bool a0_7]) (t := 30) ?hr ?_; (case hd => rfl); (case hg => rfl); (case hr => first | (go_simp; done) | (go_simp; rfl)); intro gb173 hg w32 hbox hb; have n0_ := Aside0.mk (below_step (by repeat (first | (with_reducible first | exact HB.out | apply below_alloc | apply pw_below_drewN | apply below_drew1) | exact HB.out)) hb); have n1_ := Aside0.mk (hbox); have n2_ := Aside0.mk ((by rw [hg]; exact (below_size (by repeat (first | (with_reducible first | exact HB.out | apply below_alloc | apply pw_below_drewN | apply below_drew1) | exact HB.out))) : w.heap.size ≤ gb173)); have n3_ := Aside0.mk ((by rw [hg]; exact (below_size (by repeat (first | (with_reducible first | exact HB.out | apply below_alloc | apply pw_below_drewN | apply below_drew1) | exact HB.out))) : w.heap.size ≤ gb173)); clear HB; have HB := n0_; have BK173 := n1_; have GW173 := n2_; have GE173 := n3_; clear n0_ n1_ n2_ n3_; clear hb hbox hg) | ((with_reducible refine gate_dst (N := 3) rfl ?_); refine box_event ?hg (N := 3) ?hd (cs := #[.slice A1_0 l1_0.length c1_0, .bool a1_1, .int .i64 a1_2, .int .i64 a1_3, .int .i64 a1_4, .int .u64 a1_5, .int .u64 a1_6, .bool a1_7]) (t := 30) ?hr ?_; (case hd => rfl); (case hg => rfl); (case hr => first | (go_simp; done) | (go_simp; rfl)); intro gb174 hg w33 hbox hb; have n0_ := Aside0.mk (blk_below (g := gb173) (o := .cells #[.slice A0_0 l0_0.length c0_0, .bool a0_1, .int .i64 a0_2, .int .i64 a0_3, .int .i64 a0_4, .int .u64 a0_5, .int .u64 a0_6, .bool a0_7] 30 (0, 0)) (by (with_reducible repeat (first | refine blk_drewN ?_ _ | refine blk_drew ?_ | refine blk_alloc ?_ _)); exact BK173.out) hb); have n1_ := Aside0.mk (below_step (by repeat (first | (with_reducible first | exact HB.out | apply below_alloc | apply pw_below_drewN | apply below_drew1 | refine below_set ?_ GE173.out) | exact HB.out)) hb); have n2_ := Aside0.mk (hbox); have n3_ := Aside0.mk ((by rw [hg]; exact (below_size (by repeat (first | (with_reducible first | exact HB.out | apply below_alloc | apply pw_below_drewN | apply below_drew1 | refine below_set ?_ GE173.out) | exact HB.out))) : w.heap.size ≤ gb174)); have n4_ := Aside0.mk ((by rw [hg]; exact (below_size (by repeat (first | (with_reducible first | exact HB.out | apply below_alloc | apply pw_below_drewN | apply below_drew1 | refine below_set ?_ GE173.out) | exact HB.out))) : w.heap.size ≤ gb174)); have n5_ := Aside0.mk ((by rw [hg]; exact Nat.ne_of_lt (blk_lt (g := gb173) (o := .cells #[.slice A0_0 l0_0.length c0_0, .bool a0_1, .int .i64 a0_2, .int .i64 a0_3, .int .i64 a0_4, .int .u64 a0_5, .int .u64 a0_6, .bool a0_7] 30 (0, 0)) (by (with_reducible repeat (first | refine blk_drewN ?_ _ | refine blk_drew ?_ | refine blk_alloc ?_ _)); exact BK173.out)) : gb173 ≠ gb174)); have n6_ := Aside0.mk ((by rw [hg]; exact Nat.ne_of_gt (blk_lt (g := gb173) (o := .cells #[.slice A0_0 l0_0.length c0_0, .bool a0_1, .int .i64 a0_2, .int .i64 a0_3, .int .i64 a0_4, .int .u64 a0_5, .int .u64 a0_6, .bool a0_7] 30 (0, 0)) (by (with_reducible repeat (first | refine blk_drewN ?_ _ | refine blk_drew ?_ | refine blk_alloc ?_ _)); exact BK173.out)) : gb174 ≠ gb173)); clear BK173; clear HB; have BK173 := n0_; have HB := n1_; have BK174 := n2_; have GW174 := n3_; have GE174 := n4_; have NB173_174 := n5_; have NB174_173 := n6_; clear n0_ n1_ n2_ n3_ n4_ n5_ n6_; clear hb hbox hg; have hnb34 := NB173_174.out; have hnc34 := NB174_173.out; have hcz35_0 : w33.cell? ⟨gb173, 0, none⟩ = some (.slice A0_0 l0_0.length c0_0) := (blk_cell BK173.out 0).trans rfl; have hcz35_1 : w33.cell? ⟨gb173, 1, none⟩ = some (.bool a0_1) := (blk_cell BK173.out 1).trans rfl; have hcz35_2 : w33.cell? ⟨gb173, 2, none⟩ = some (.int .i64 a0_2) := (blk_cell BK173.out 2).trans rfl; have hcz35_3 : w33.cell? ⟨gb173, 3, none⟩ = some (.int .i64 a0_3) := (blk_cell BK173.out 3).trans rfl; have hcz35_4 : w33.cell? ⟨gb173, 4, none⟩ = some (.int .i64 a0_4) := (blk_cell BK173.out 4).trans rfl; have hcz35_5 : w33.cell? ⟨gb173, 5, none⟩ = some (.int .u64 a0_5) := (blk_cell BK173.out 5).trans rfl; have hcz35_6 : w33.cell? ⟨gb173, 6, none⟩ = some (.int .u64 a0_6) := (blk_cell BK173.out 6).trans rfl; have hcz35_7 : w33.cell? ⟨gb173, 7, none⟩ = some (.bool a0_7) := (blk_cell BK173.out 7).trans rfl; have hfz35_0 := blk_frozen BK173.out 0; have hfz35_1 := blk_frozen BK173.out 1; have hfz35_2 := blk_frozen BK173.out 2; have hfz35_3 := blk_frozen BK173.out 3; have hfz35_4 := blk_frozen BK173.out 4; have hfz35_5 := blk_frozen BK173.out 5; have hfz35_6 := blk_frozen BK173.out 6; have hfz35_7 := blk_frozen BK173.out 7; have hcz36_0 : w33.cell? ⟨gb174, 0, none⟩ = some (.slice A1_0 l1_0.length c1_0) := (blk_cell BK174.out 0).trans rfl; have hcz36_1 : w33.cell? ⟨gb174, 1, none⟩ = some (.bool a1_1) := (blk_cell BK174.out 1).trans rfl; have hcz36_2 : w33.cell? ⟨gb174, 2, none⟩ = some (.int .i64 a1_2) := (blk_cell BK174.out 2).trans rfl; have hcz36_3 : w33.cell? ⟨gb174, 3, none⟩ = some (.int .i64 a1_3) := (blk_cell BK174.out 3).trans rfl; have hcz36_4 : w33.cell? ⟨gb174, 4, none⟩ = some (.int .i64 a1_4) := (blk_cell BK174.out 4).trans rfl; have hcz36_5 : w33.cell? ⟨gb174, 5, none⟩ = some (.int .u64 a1_5) := (blk_cell BK174.out 5).trans rfl; have hcz36_6 : w33.cell? ⟨gb174, 6, none⟩ = some (.int .u64 a1_6) := (blk_cell BK174.out 6).trans rfl; have hcz36_7 : w33.cell? ⟨gb174, 7, none⟩ = some (.bool a1_7) := (blk_cell BK174.out 7).trans rfl; have hfz36_0 := blk_frozen BK174.out 0; have hfz36_1 := blk_frozen BK174.out 1; have hfz36_2 := blk_frozen BK174.out 2; have hfz36_3 := blk_frozen BK174.out 3; have hfz36_4 := blk_frozen BK174.out 4; have hfz36_5 := blk_frozen BK174.out 5; have hfz36_6 := blk_frozen BK174.out 6; have hfz36_7 := blk_frozen BK174.out 7) | ((with_reducible refine gate_callee (f := 75) rfl ?_); refine goesL_ (some 9) rfl rfl Tryz.func75 (by kernel_rfl) rfl #[.agg #[.slice A0_0 l0_0.length c0_0, .bool a0_1, .int .i64 a0_2, .int .i64 a0_3], .agg #[.slice A1_0 l1_0.length c1_0, .bool a1_1, .int .i64 a1_2, .int .i64 a1_3]] rfl (by (try simp only [List.map_toArray, List.map_cons, List.map_nil]); first | done | rfl | (simp only [List.length_drop, List.length_take]; rfl)) ?_; (with_reducible refine (penstockref09_Same.calls k _ _ l0_0 a0_1 a0_2 a0_3 _ _ l1_0 a1_1 a1_2 a1_3 true _ ?side1 ?side2 ?side3 ?side4 A3.out).mono ?_); (case side1 => repeat (first | exact (Kd.C_below HR0_0.out HB.out) | (with_reducible refine Kd.C_alloc ?_ _) | (with_reducible refine Kd.C_drewN ?_ _) | (with_reducible refine Kd.C_drew ?_))); (case side2 => exact HC0_0.out); (case side3 => repeat (first | exact (Kd.C_below HR1_0.out HB.out) | (with_reducible refine Kd.C_alloc ?_ _) | (with_reducible refine Kd.C_drewN ?_ _) | (with_reducible refine Kd.C_drew ?_))); (case side4 => exact HC1_0.out); rintro e w37 ⟨rfl, hb⟩; refine ⟨_, rfl, ?_⟩; have n0_ := Aside0.mk (blk_below (g := gb173) (o := .cells #[.slice A0_0 l0_0.length c0_0, .bool a0_1, .int .i64 a0_2, .int .i64 a0_3, .int .i64 a0_4, .int .u64 a0_5, .int .u64 a0_6, .bool a0_7] 30 (0, 0)) (by (with_reducible repeat (first | refine blk_drewN ?_ _ | refine blk_drew ?_ | refine blk_alloc ?_ _)); exact BK173.out) hb); have n1_ := Aside0.mk (blk_below (g := gb174) (o := .cells #[.slice A1_0 l1_0.length c1_0, .bool a1_1, .int .i64 a1_2, .int .i64 a1_3, .int .i64 a1_4, .int .u64 a1_5, .int .u64 a1_6, .bool a1_7] 30 (0, 0)) (by (with_reducible repeat (first | refine blk_drewN ?_ _ | refine blk_drew ?_ | refine blk_alloc ?_ _)); exact BK174.out) hb); have n2_ := Aside0.mk (below_step (by repeat (first | (with_reducible first | exact HB.out | apply below_alloc | apply pw_below_drewN | apply below_drew1 | refine below_set ?_ GE173.out | refine below_set ?_ GE174.out) | exact HB.out)) hb); clear BK173; clear BK174; clear HB; have BK173 := n0_; have BK174 := n1_; have HB := n2_; clear n0_ n1_ n2_; (try clear hb); (try clear hb2); (try clear hk); (try clear hi); have hcz38_0 : w37.cell? ⟨gb173, 0, none⟩ = some (.slice A0_0 l0_0.length c0_0) := (blk_cell BK173.out 0).trans rfl; have hcz38_1 : w37.cell? ⟨gb173, 1, none⟩ = some (.bool a0_1) := (blk_cell BK173.out 1).trans rfl; have hcz38_2 : w37.cell? ⟨gb173, 2, none⟩ = some (.int .i64 a0_2) := (blk_cell BK173.out 2).trans rfl; have hcz38_3 : w37.cell? ⟨gb173, 3, none⟩ = some (.int .i64 a0_3) := (blk_cell BK173.out 3).trans rfl; have hcz38_4 : w37.cell? ⟨gb173, 4, none⟩ = some (.int .i64 a0_4) := (blk_cell BK173.out 4).trans rfl; have hcz38_5 : w37.cell? ⟨gb173, 5, none⟩ = some (.int .u64 a0_5) := (blk_cell BK173.out 5).trans rfl; have hcz38_6 : w37.cell? ⟨gb173, 6, none⟩ = some (.int .u64 a0_6) := (blk_cell BK173.out 6).trans rfl; have hcz38_7 : w37.cell? ⟨gb173, 7, none⟩ = some (.bool a0_7) := (blk_cell BK173.out 7).trans rfl; have hfz38_0 := blk_frozen BK173.out 0; have hfz38_1 := blk_frozen BK173.out 1; have hfz38_2 := blk_frozen BK173.out 2; have hfz38_3 := blk_frozen BK173.out 3; have hfz38_4 := blk_frozen BK173.out 4; have hfz38_5 := blk_frozen BK173.out 5; have hfz38_6 := blk_frozen BK173.out 6; have hfz38_7 := blk_frozen BK173.out 7; have hcz39_0 : w37.cell? ⟨gb174, 0, none⟩ = some (.slice A1_0 l1_0.length c1_0) := (blk_cell BK174.out 0).trans rfl; have hcz39_1 : w37.cell? ⟨gb174, 1, none⟩ = some (.bool a1_1) := (blk_cell BK174.out 1).trans rfl; have hcz39_2 : w37.cell? ⟨gb174, 2, none⟩ = some (.int .i64 a1_2) := (blk_cell BK174.out 2).trans rfl; have hcz39_3 : w37.cell? ⟨gb174, 3, none⟩ = some (.int .i64 a1_3) := (blk_cell BK174.out 3).trans rfl; have hcz39_4 : w37.cell? ⟨gb174, 4, none⟩ = some (.int .i64 a1_4) := (blk_cell BK174.out 4).trans rfl; have hcz39_5 : w37.cell? ⟨gb174, 5, none⟩ = some (.int .u64 a1_5) := (blk_cell BK174.out 5).trans rfl; have hcz39_6 : w37.cell? ⟨gb174, 6, none⟩ = some (.int .u64 a1_6) := (blk_cell BK174.out 6).trans rfl; have hcz39_7 : w37.cell? ⟨gb174, 7, none⟩ = some (.bool a1_7) := (blk_cell BK174.out 7).trans rfl; have hfz39_0 := blk_frozen BK174.out 0; have hfz39_1 := blk_frozen BK174.out 1; have hfz39_2 := blk_frozen BK174.out 2; have hfz39_3 := blk_frozen BK174.out 3; have hfz39_4 := blk_frozen BK174.out 4; have hfz39_5 := blk_frozen BK174.out 5; have hfz39_6 := blk_frozen BK174.out 6; have hfz39_7 := blk_frozen BK174.out 7))
      go_ret
      exact ⟨by first | rfl | (simp [errW_none, errW_some] <;> rfl) | (simp [*, errW_none, errW_some] <;> rfl), by repeat (first | (with_reducible first | exact HB.out | apply below_alloc | apply pw_below_drewN | apply below_drew1 | refine below_set ?_ GE173.out | refine below_set ?_ GE174.out) | exact HB.out)⟩
  · replace c4 := Bool.eq_false_iff.mpr c4
    subst c4
    have H1 : (some false) = some r := by rw [if_neg (show ¬ (false = true) by decide)] at H; exact H
    clear H
    have H := H1
    clear H1
    obtain rfl := Option.some.inj H
    go_enter Tryz.func28, Tryz.ntmps28
    go_wp2_with (first | ((with_reducible refine gate_dst (N := 2) rfl ?_); refine box_event ?hg (N := 2) ?hd (cs := #[.slice A0_0 l0_0.length c0_0, .bool a0_1, .int .i64 a0_2, .int .i64 a0_3, .int .i64 a0_4, .int .u64 a0_5, .int .u64 a0_6, .bool a0_7]) (t := 30) ?hr ?_; (case hd => rfl); (case hg => rfl); (case hr => first | (go_simp; done) | (go_simp; rfl)); intro gb173 hg w40 hbox hb; have n0_ := Aside0.mk (below_step (by repeat (first | (with_reducible first | exact HB.out | apply below_alloc | apply pw_below_drewN | apply below_drew1) | exact HB.out)) hb); have n1_ := Aside0.mk (hbox); have n2_ := Aside0.mk ((by rw [hg]; exact (below_size (by repeat (first | (with_reducible first | exact HB.out | apply below_alloc | apply pw_below_drewN | apply below_drew1) | exact HB.out))) : w.heap.size ≤ gb173)); have n3_ := Aside0.mk ((by rw [hg]; exact (below_size (by repeat (first | (with_reducible first | exact HB.out | apply below_alloc | apply pw_below_drewN | apply below_drew1) | exact HB.out))) : w.heap.size ≤ gb173)); clear HB; have HB := n0_; have BK173 := n1_; have GW173 := n2_; have GE173 := n3_; clear n0_ n1_ n2_ n3_; clear hb hbox hg) | ((with_reducible refine gate_dst (N := 3) rfl ?_); refine box_event ?hg (N := 3) ?hd (cs := #[.slice A1_0 l1_0.length c1_0, .bool a1_1, .int .i64 a1_2, .int .i64 a1_3, .int .i64 a1_4, .int .u64 a1_5, .int .u64 a1_6, .bool a1_7]) (t := 30) ?hr ?_; (case hd => rfl); (case hg => rfl); (case hr => first | (go_simp; done) | (go_simp; rfl)); intro gb174 hg w41 hbox hb; have n0_ := Aside0.mk (blk_below (g := gb173) (o := .cells #[.slice A0_0 l0_0.length c0_0, .bool a0_1, .int .i64 a0_2, .int .i64 a0_3, .int .i64 a0_4, .int .u64 a0_5, .int .u64 a0_6, .bool a0_7] 30 (0, 0)) (by (with_reducible repeat (first | refine blk_drewN ?_ _ | refine blk_drew ?_ | refine blk_alloc ?_ _)); exact BK173.out) hb); have n1_ := Aside0.mk (below_step (by repeat (first | (with_reducible first | exact HB.out | apply below_alloc | apply pw_below_drewN | apply below_drew1 | refine below_set ?_ GE173.out) | exact HB.out)) hb); have n2_ := Aside0.mk (hbox); have n3_ := Aside0.mk ((by rw [hg]; exact (below_size (by repeat (first | (with_reducible first | exact HB.out | apply below_alloc | apply pw_below_drewN | apply below_drew1 | refine below_set ?_ GE173.out) | exact HB.out))) : w.heap.size ≤ gb174)); have n4_ := Aside0.mk ((by rw [hg]; exact (below_size (by repeat (first | (with_reducible first | exact HB.out | apply below_alloc | apply pw_below_drewN | apply below_drew1 | refine below_set ?_ GE173.out) | exact HB.out))) : w.heap.size ≤ gb174)); have n5_ := Aside0.mk ((by rw [hg]; exact Nat.ne_of_lt (blk_lt (g := gb173) (o := .cells #[.slice A0_0 l0_0.length c0_0, .bool a0_1, .int .i64 a0_2, .int .i64 a0_3, .int .i64 a0_4, .int .u64 a0_5, .int .u64 a0_6, .bool a0_7] 30 (0, 0)) (by (with_reducible repeat (first | refine blk_drewN ?_ _ | refine blk_drew ?_ | refine blk_alloc ?_ _)); exact BK173.out)) : gb173 ≠ gb174)); have n6_ := Aside0.mk ((by rw [hg]; exact Nat.ne_of_gt (blk_lt (g := gb173) (o := .cells #[.slice A0_0 l0_0.length c0_0, .bool a0_1, .int .i64 a0_2, .int .i64 a0_3, .int .i64 a0_4, .int .u64 a0_5, .int .u64 a0_6, .bool a0_7] 30 (0, 0)) (by (with_reducible repeat (first | refine blk_drewN ?_ _ | refine blk_drew ?_ | refine blk_alloc ?_ _)); exact BK173.out)) : gb174 ≠ gb173)); clear BK173; clear HB; have BK173 := n0_; have HB := n1_; have BK174 := n2_; have GW174 := n3_; have GE174 := n4_; have NB173_174 := n5_; have NB174_173 := n6_; clear n0_ n1_ n2_ n3_ n4_ n5_ n6_; clear hb hbox hg; have hnb42 := NB173_174.out; have hnc42 := NB174_173.out; have hcz43_0 : w41.cell? ⟨gb173, 0, none⟩ = some (.slice A0_0 l0_0.length c0_0) := (blk_cell BK173.out 0).trans rfl; have hcz43_1 : w41.cell? ⟨gb173, 1, none⟩ = some (.bool a0_1) := (blk_cell BK173.out 1).trans rfl; have hcz43_2 : w41.cell? ⟨gb173, 2, none⟩ = some (.int .i64 a0_2) := (blk_cell BK173.out 2).trans rfl; have hcz43_3 : w41.cell? ⟨gb173, 3, none⟩ = some (.int .i64 a0_3) := (blk_cell BK173.out 3).trans rfl; have hcz43_4 : w41.cell? ⟨gb173, 4, none⟩ = some (.int .i64 a0_4) := (blk_cell BK173.out 4).trans rfl; have hcz43_5 : w41.cell? ⟨gb173, 5, none⟩ = some (.int .u64 a0_5) := (blk_cell BK173.out 5).trans rfl; have hcz43_6 : w41.cell? ⟨gb173, 6, none⟩ = some (.int .u64 a0_6) := (blk_cell BK173.out 6).trans rfl; have hcz43_7 : w41.cell? ⟨gb173, 7, none⟩ = some (.bool a0_7) := (blk_cell BK173.out 7).trans rfl; have hfz43_0 := blk_frozen BK173.out 0; have hfz43_1 := blk_frozen BK173.out 1; have hfz43_2 := blk_frozen BK173.out 2; have hfz43_3 := blk_frozen BK173.out 3; have hfz43_4 := blk_frozen BK173.out 4; have hfz43_5 := blk_frozen BK173.out 5; have hfz43_6 := blk_frozen BK173.out 6; have hfz43_7 := blk_frozen BK173.out 7; have hcz44_0 : w41.cell? ⟨gb174, 0, none⟩ = some (.slice A1_0 l1_0.length c1_0) := (blk_cell BK174.out 0).trans rfl; have hcz44_1 : w41.cell? ⟨gb174, 1, none⟩ = some (.bool a1_1) := (blk_cell BK174.out 1).trans rfl; have hcz44_2 : w41.cell? ⟨gb174, 2, none⟩ = some (.int .i64 a1_2) := (blk_cell BK174.out 2).trans rfl; have hcz44_3 : w41.cell? ⟨gb174, 3, none⟩ = some (.int .i64 a1_3) := (blk_cell BK174.out 3).trans rfl; have hcz44_4 : w41.cell? ⟨gb174, 4, none⟩ = some (.int .i64 a1_4) := (blk_cell BK174.out 4).trans rfl; have hcz44_5 : w41.cell? ⟨gb174, 5, none⟩ = some (.int .u64 a1_5) := (blk_cell BK174.out 5).trans rfl; have hcz44_6 : w41.cell? ⟨gb174, 6, none⟩ = some (.int .u64 a1_6) := (blk_cell BK174.out 6).trans rfl; have hcz44_7 : w41.cell? ⟨gb174, 7, none⟩ = some (.bool a1_7) := (blk_cell BK174.out 7).trans rfl; have hfz44_0 := blk_frozen BK174.out 0; have hfz44_1 := blk_frozen BK174.out 1; have hfz44_2 := blk_frozen BK174.out 2; have hfz44_3 := blk_frozen BK174.out 3; have hfz44_4 := blk_frozen BK174.out 4; have hfz44_5 := blk_frozen BK174.out 5; have hfz44_6 := blk_frozen BK174.out 6; have hfz44_7 := blk_frozen BK174.out 7) | ((with_reducible refine gate_callee (f := 75) rfl ?_); refine goesL_ (some 9) rfl rfl Tryz.func75 (by kernel_rfl) rfl #[.agg #[.slice A0_0 l0_0.length c0_0, .bool a0_1, .int .i64 a0_2, .int .i64 a0_3], .agg #[.slice A1_0 l1_0.length c1_0, .bool a1_1, .int .i64 a1_2, .int .i64 a1_3]] rfl (by (try simp only [List.map_toArray, List.map_cons, List.map_nil]); first | done | rfl | (simp only [List.length_drop, List.length_take]; rfl)) ?_; (with_reducible refine (penstockref09_Same.calls k _ _ l0_0 a0_1 a0_2 a0_3 _ _ l1_0 a1_1 a1_2 a1_3 false _ ?side1 ?side2 ?side3 ?side4 A3.out).mono ?_); (case side1 => repeat (first | exact (Kd.C_below HR0_0.out HB.out) | (with_reducible refine Kd.C_alloc ?_ _) | (with_reducible refine Kd.C_drewN ?_ _) | (with_reducible refine Kd.C_drew ?_))); (case side2 => exact HC0_0.out); (case side3 => repeat (first | exact (Kd.C_below HR1_0.out HB.out) | (with_reducible refine Kd.C_alloc ?_ _) | (with_reducible refine Kd.C_drewN ?_ _) | (with_reducible refine Kd.C_drew ?_))); (case side4 => exact HC1_0.out); rintro e w45 ⟨rfl, hb⟩; refine ⟨_, rfl, ?_⟩; have n0_ := Aside0.mk (blk_below (g := gb173) (o := .cells #[.slice A0_0 l0_0.length c0_0, .bool a0_1, .int .i64 a0_2, .int .i64 a0_3, .int .i64 a0_4, .int .u64 a0_5, .int .u64 a0_6, .bool a0_7] 30 (0, 0)) (by (with_reducible repeat (first | refine blk_drewN ?_ _ | refine blk_drew ?_ | refine blk_alloc ?_ _)); exact BK173.out) hb); have n1_ := Aside0.mk (blk_below (g := gb174) (o := .cells #[.slice A1_0 l1_0.length c1_0, .bool a1_1, .int .i64 a1_2, .int .i64 a1_3, .int .i64 a1_4, .int .u64 a1_5, .int .u64 a1_6, .bool a1_7] 30 (0, 0)) (by (with_reducible repeat (first | refine blk_drewN ?_ _ | refine blk_drew ?_ | refine blk_alloc ?_ _)); exact BK174.out) hb); have n2_ := Aside0.mk (below_step (by repeat (first | (with_reducible first | exact HB.out | apply below_alloc | apply pw_below_drewN | apply below_drew1 | refine below_set ?_ GE173.out | refine below_set ?_ GE174.out) | exact HB.out)) hb); clear BK173; clear BK174; clear HB; have BK173 := n0_; have BK174 := n1_; have HB := n2_; clear n0_ n1_ n2_; (try clear hb); (try clear hb2); (try clear hk); (try clear hi)))
    go_ret
    exact ⟨by first | rfl | (simp [errW_none, errW_some] <;> rfl) | (simp [*, errW_none, errW_some] <;> rfl), by repeat (first | (with_reducible first | exact HB.out | apply below_alloc | apply pw_below_drewN | apply below_drew1 | refine below_set ?_ GE173.out | refine below_set ?_ GE174.out) | exact HB.out)⟩
end Go.Proofs.YtanonhipicoigaaGreatDoor.U
namespace Go.Proofs.YtanonhipicoigaaGreatDoor.U
open Go.RowKit Go.Proofs.YtanonhipicoigaaGreatDoorW.PrintWords Go.Proofs.YtanonhipicoigaaGreatDoorW.PrintLast Go.Proofs.YtanonhipicoigaaGreatDoorW.PrintMore
attribute [local go_sem] max2_int min2_int max_two min_two max_three min_three max_four min_four   -- for this text's walks alone
set_option linter.unusedVariables false
set_option linter.unusedSimpArgs false
theorem eqA62 (d : Nat) (w : World) (x0 y0 : Int) (x1 y1 : ByteArray) :
    (Op.equalIn (d + 2) 62 (.agg #[.int .u64 x0, .string x1]) (.agg #[.int .u64 y0, .string y1])).run Tryz.prog w = .ok (x0 == y0 && (x1.toList == y1.toList)) w := by
  refine eqA_of Tryz.underlying62 (by kernel_rfl) ?_
  refine eqf_cons (by rfl) (by go_simp; rfl) (by go_simp; rfl) (by go_simp) ?_
  exact eqf_last (by rfl) (by go_simp; rfl) (by go_simp; rfl) (by go_simp)
end Go.Proofs.YtanonhipicoigaaGreatDoor.U
namespace Go.Proofs.YtanonhipicoigaaGreatDoor.U
open Go.RowKit Go.Proofs.YtanonhipicoigaaGreatDoorW.PrintWords Go.Proofs.YtanonhipicoigaaGreatDoorW.PrintLast Go.Proofs.YtanonhipicoigaaGreatDoorW.PrintMore
attribute [local go_sem] max2_int min2_int max_two min_two max_three min_three max_four min_four   -- for this text's walks alone
set_option linter.unusedVariables false
set_option linter.unusedSimpArgs false
attribute [local go_sem high] eqA62
/-! ### penstockref10_SameRecords: function 29 -/
def penstockref10_SameRecords.l0 : Nat → List (S62) → List (S62) → Int → Int → Option (Bool)
  | 0, _, _, _, _ => none
  | k + 1, x0, x1, x12, x13 => if x13 < x12 then (if 0 ≤ x13 then (if x13 < (x0.length : Int) then (if x13 < (x1.length : Int) then (if (!(((rd_T62 x0 x13).f0) == ((rd_T62 x1 x13).f0)) || (!((((rd_T62 x0 x13).f1).toList) == (((rd_T62 x1 x13).f1).toList)))) = true then (some false) else (penstockref10_SameRecords.l0 k x0 x1 x12 (wrap64 (x13 + 1)))) else (none)) else (none)) else (none)) else (some true)
def penstockref10_SameRecords.f (k : Nat) (l0 : List (S62)) (l1 : List (S62)) : Option (Bool) := if (l0.length : Int) = (l1.length : Int) then (penstockref10_SameRecords.l0 k l0 l1 (l0.length : Int) 0) else (some false)
theorem penstockref10_SameRecords.mono_l : ∀ k, (∀ y0 y1 y2 y3, LeO (penstockref10_SameRecords.l0 k y0 y1 y2 y3) (penstockref10_SameRecords.l0 (k + 1) y0 y1 y2 y3))
  | 0 => fun _ _ _ _ r h => by simp [penstockref10_SameRecords.l0] at h
  | k + 1 => by
    have ih0 := penstockref10_SameRecords.mono_l k
    · intro y0 y1 y2 y3
      unfold penstockref10_SameRecords.l0
      repeat' first
      | (with_reducible exact ih0 _ _ _ _)
      | (with_reducible exact LeO.refl _)
      | (with_reducible exact LeO.none _)
      | (with_reducible refine LeO.ite ?_ ?_)
      | (with_reducible refine LeO.bind ?_ (fun _ => ?_))
      | exact ih0 _ _ _ _
      | exact LeO.none _
      | refine LeO.ite ?_ ?_
      | refine LeO.bind ?_ (fun _ => ?_)
theorem penstockref10_SameRecords.mono : ∀ a0 a1 k, LeO (penstockref10_SameRecords.f k a0 a1) (penstockref10_SameRecords.f (k + 1) a0 a1) := by
  intro a0 a1 k
  have ih0 := penstockref10_SameRecords.mono_l k
  unfold penstockref10_SameRecords.f
  repeat' first
      | (with_reducible exact ih0 _ _ _ _)
      | (with_reducible exact LeO.refl _)
      | (with_reducible exact LeO.none _)
      | (with_reducible refine LeO.ite ?_ ?_)
      | (with_reducible refine LeO.bind ?_ (fun _ => ?_))
      | exact ih0 _ _ _ _
      | exact LeO.none _
      | refine LeO.ite ?_ ?_
      | refine LeO.bind ?_ (fun _ => ?_)
set_option maxHeartbeats 8000000 in
set_option maxRecDepth 100000 in
theorem penstockref10_SameRecords.calls (k : Nat) (A0 : Option Addr) (c0 : Nat) (l0 : List (S62)) (A1 : Option Addr) (c1 : Nat) (l1 : List (S62)) (r : Bool) (w : World) (hr0 : Kd.C k62 w A0 l0.length l0) (hc0 : l0.length ≤ c0) (hr1 : Kd.C k62 w A1 l1.length l1) (hc1 : l1.length ≤ c1) (h : penstockref10_SameRecords.f k l0 l1 = some r) :
    Calls Tryz.prog 29 #[.slice A0 l0.length c0, .slice A1 l1.length c1] w fun e w' => e = .returned (.bool r) ∧ Drawn0 w w' := by
  have hu62 := Tryz.underlying62
  have HR0 := Aside0.mk hr0
  have HC0 := Aside0.mk hc0
  clear hr0 hc0
  have HR1 := Aside0.mk hr1
  have HC1 := Aside0.mk hc1
  clear hr1 hc1
  have H : (if (l0.length : Int) = (l1.length : Int) then (penstockref10_SameRecords.l0 k l0 l1 (l0.length : Int) 0) else (some false)) = some r := h
  clear h
  by_cases c3 : (l0.length : Int) = (l1.length : Int)
  · rw [if_pos c3] at H
    have c3b0 : ((l0.length : Int) == (l1.length : Int)) = true := beq_iff_eq.mpr c3
    have c3b1 : ((l0.length : Int) != (l1.length : Int)) = false := bne_eq_false_iff_eq.mpr c3
    have c3b2 : (l0.length == l1.length) = true := by first | simpa using c3 | (simp at c3 ⊢; omega)
    clear c3
    have H' := Aside0.mk H
    clear H
    go_enter Tryz.func29, Tryz.ntmps29
    go_wp2
    repeat (go_quiet (fail); try go_wp2)
    go_loopg [13] k (fun kq v13 w' => ∃ (x13_1 : Int), v13 = .int .i64 x13_1 ∧ Aside0 (penstockref10_SameRecords.l0 kq l0 l1 (l0.length : Int) x13_1 = some r) ∧ Aside0 (kq ≤ k) ∧ Drawn0 w w')
    case atStart => exact ⟨(0), (by first | rfl | (simp; done) | (simp [*]; done)), H', ⟨Nat.le_refl _⟩, by repeat (first | exact Drawn0.refl _ | apply Drawn0.step)⟩
    case round =>
      clear H'
      try clear c1
      try clear c2
      try clear p2
      try clear c3
      try clear c3b0
      try clear c3b1
      try clear c3b2
      obtain ⟨x13_1, rfl, HA, HK1, ⟨m1, rfl⟩⟩ := hrel
      cases gk with
      | zero => exact absurd HA.out (by simp [penstockref10_SameRecords.l0])
      | succ k1 =>
        have H := HA.out
        clear HA
        simp only [penstockref10_SameRecords.l0] at H
        by_cases c4 : x13_1 < (l0.length : Int)
        · rw [if_pos c4] at H
          have c4b0 : decide (x13_1 < (l0.length : Int)) = true := decide_eq_true c4
          clear c4
          by_cases c5 : 0 ≤ x13_1
          · rw [if_pos c5] at H
            have c5b0 : decide (0 ≤ x13_1) = true := decide_eq_true c5
            clear c5
            by_cases c6 : x13_1 < (l0.length : Int)
            · rw [if_pos c6] at H
              have c6b0 : decide (x13_1 < (l0.length : Int)) = true := decide_eq_true c6
              clear c6
              by_cases c7 : x13_1 < (l1.length : Int)
              · rw [if_pos c7] at H
                have c7b0 : decide (x13_1 < (l1.length : Int)) = true := decide_eq_true c7
                clear c7
                by_cases c8 : (!(((rd_T62 l0 x13_1).f0) == ((rd_T62 l1 x13_1).f0)) || (!((((rd_T62 l0 x13_1).f1).toList) == (((rd_T62 l1 x13_1).f1).toList)))) = true
                · rw [if_pos c8] at H
                  have c8b0 : (!(((rd_T62 l0 x13_1).f0) == ((rd_T62 l1 x13_1).f0)) || (!((((rd_T62 l0 x13_1).f1).toList) == (((rd_T62 l1 x13_1).f1).toList)))) = true := c8
                  clear c8
                  obtain rfl := Option.some.inj H
                  have p176 : 0 ≤ (x13_1 : Int) := of_decide_eq_true (by first | (with_reducible assumption) | assumption)
                  have q176 : x13_1 < (l0.length : Int) := of_decide_eq_true (by first | (with_reducible assumption) | assumption)
                  obtain ⟨ad176, e176, hx176_0, hx176_1⟩ := at_T62 HR0.out x13_1 p176 q176
                  cases e176
                  replace p176 := eq_true p176
                  replace q176 := eq_true q176
                  have p177 : 0 ≤ (x13_1 : Int) := of_decide_eq_true (by first | (with_reducible assumption) | assumption)
                  have q177 : x13_1 < (l1.length : Int) := of_decide_eq_true (by first | (with_reducible assumption) | assumption)
                  obtain ⟨ad177, e177, hx177_0, hx177_1⟩ := at_T62 HR1.out x13_1 p177 q177
                  cases e177
                  replace p177 := eq_true p177
                  replace q177 := eq_true q177
                  go_wp2
                  repeat (go_quiet (fail); try go_wp2)
                  go_ret
                  exact ⟨by first | rfl | (simp; done) | (simp [*]; done), by repeat (first | exact Drawn0.refl _ | apply Drawn0.step)⟩
                · rw [if_neg c8] at H
                  have c8b0 : (!(((rd_T62 l0 x13_1).f0) == ((rd_T62 l1 x13_1).f0)) || (!((((rd_T62 l0 x13_1).f1).toList) == (((rd_T62 l1 x13_1).f1).toList)))) = false := by simpa using c8
                  clear c8
                  have H' := Aside0.mk H
                  clear H
                  have p176 : 0 ≤ (x13_1 : Int) := of_decide_eq_true (by first | (with_reducible assumption) | assumption)
                  have q176 : x13_1 < (l0.length : Int) := of_decide_eq_true (by first | (with_reducible assumption) | assumption)
                  obtain ⟨ad176, e176, hx176_0, hx176_1⟩ := at_T62 HR0.out x13_1 p176 q176
                  cases e176
                  replace p176 := eq_true p176
                  replace q176 := eq_true q176
                  have p177 : 0 ≤ (x13_1 : Int) := of_decide_eq_true (by first | (with_reducible assumption) | assumption)
                  have q177 : x13_1 < (l1.length : Int) := of_decide_eq_true (by first | (with_reducible assumption) | assumption)
                  obtain ⟨ad177, e177, hx177_0, hx177_1⟩ := at_T62 HR1.out x13_1 p177 q177
                  cases e177
                  replace p177 := eq_true p177
                  replace q177 := eq_true q177
                  go_wp2
                  repeat (go_quiet (fail); try go_wp2)
                  go_roundg k1
                  case measure => have := HK1.out; omega
                  case rel => exact ⟨(wrap64 (x13_1 + 1)), (by first | rfl | (simp; done) | (simp [*]; done)), H', ⟨by have := HK1.out; omega⟩, by repeat (first | exact Drawn0.refl _ | apply Drawn0.step)⟩
              · rw [if_neg c7] at H
                exact absurd H (by simp)
            · rw [if_neg c6] at H
              exact absurd H (by simp)
          · rw [if_neg c5] at H
            exact absurd H (by simp)
        · rw [if_neg c4] at H
          have c4b0 : decide (x13_1 < (l0.length : Int)) = false := decide_eq_false c4
          clear c4
          obtain rfl := Option.some.inj H
          go_wp2
          repeat (go_quiet (fail); try go_wp2)
          go_ret
          exact ⟨by first | rfl | (simp; done) | (simp [*]; done), by repeat (first | exact Drawn0.refl _ | apply Drawn0.step)⟩
  · rw [if_neg c3] at H
    have c3b0 : ((l0.length : Int) == (l1.length : Int)) = false := beq_eq_false_iff_ne.mpr c3
    have c3b1 : ((l0.length : Int) != (l1.length : Int)) = true := bne_iff_ne.mpr c3
    have c3b2 : (l0.length == l1.length) = false := by first | simpa using c3 | (simp at c3 ⊢; omega)
    obtain rfl := Option.some.inj H
    go_enter Tryz.func29, Tryz.ntmps29
    go_wp2
    repeat (go_quiet (fail); try go_wp2)
    go_ret
    exact ⟨by first | rfl | (simp; done) | (simp [*]; done), by repeat (first | exact Drawn0.refl _ | apply Drawn0.step)⟩
end Go.Proofs.YtanonhipicoigaaGreatDoor.U
namespace Go.Proofs.YtanonhipicoigaaGreatDoor.U
open Go.RowKit Go.Proofs.YtanonhipicoigaaGreatDoorW.PrintWords Go.Proofs.YtanonhipicoigaaGreatDoorW.PrintLast Go.Proofs.YtanonhipicoigaaGreatDoorW.PrintMore Go.Proofs.YtanonhipicoigaaGreatDoor.Sp Go.Proofs.YtanonhipicoigaaGreatDoor.SegP
set_option linter.unusedVariables false
set_option linter.unusedSimpArgs false
theorem open_no {l : List S67} {dn : Bool} {fu fa size : Int} (h : (openF l dn fu fa size).2.2 ≠ 0) : (openF l dn fu fa size).2.1 = [] := by
  unfold openF at h ⊢
  split at h
  · rename_i h1
    rw [if_pos h1]
    split at h
    · rename_i h2
      rw [if_pos h2]
    · rename_i h2
      rw [if_neg h2]
      split at h
      · rename_i h3
        rw [if_pos h3]
      · rename_i h3
        rw [if_neg h3]
        exact if_neg h
  · rename_i h1
    rw [if_neg h1]
theorem same10_refl (L : Lg) (h : L.l.length ≤ 64) : penstockref10_Same.f 70 L.l L.dn L.fu L.fa L.size L.fr L.nx L.br L.l L.dn L.fu L.fa L.size L.fr L.nx L.br = some true := by
  unfold penstockref10_Same.f
  rw [same_refl L.l L.dn L.fu L.fa h]
  simp
theorem samerec_l0 (l : List S62) (hl : l.length ≤ 4611686018427387904) : ∀ (f i : Nat), i ≤ l.length → l.length - i < f → penstockref10_SameRecords.l0 f l l (l.length : Int) (i : Int) = some true
  | 0, i, hi, hf => by omega
  | f + 1, i, hi, hf => by
    rw [penstockref10_SameRecords.l0]
    by_cases h : i < l.length
    · rw [if_pos (by omega), if_pos (by omega), if_pos (by omega), if_pos (by omega)]
      have e : wrap64 ((i : Int) + 1) = ((i + 1 : Nat) : Int) := by
        unfold wrap64
        omega
      rw [e]
      simp only [beq_self_eq_true, Bool.not_true, Bool.or_self, Bool.false_eq_true, if_false]
      exact samerec_l0 l hl f (i + 1) (by omega) (by omega)
    · rw [if_neg (by omega)]
theorem samerec_refl (l : List S62) (hl : l.length ≤ 4611686018427387904) : penstockref10_SameRecords.f (l.length + 1) l l = some true := by
  unfold penstockref10_SameRecords.f
  rw [if_pos rfl]
  exact samerec_l0 l hl (l.length + 1) 0 (by omega) (by omega)
set_option maxHeartbeats 8000000 in
set_option maxRecDepth 100000 in
theorem again_any (A : Option Addr) (c : Nat) (l : List S67) (dn : Bool) (fu fa size : Int) (w : World) (hr : Kd.C k67 w A l.length l) (hc : l.length ≤ c) (hG : Gl w) :
    Calls Tryz.prog 4 #[.agg #[.slice A l.length c, .bool dn, .int .i64 fu, .int .i64 fa], .int .i64 size] w fun e w' => e = .returned (.bool true) ∧ Below w.heap.size w w' := by
  have HRp := Aside0.mk hr
  have HCp := Aside0.mk hc
  have HG := Aside0.mk hG
  clear hr hc hG
  obtain ⟨R, rs, why, hO⟩ : ∃ R rs why, openF l dn fu fa size = (R, rs, why) := ⟨_, _, _, rfl⟩
  have HOP := Aside0.mk (fun A c w hr hc hG => open_any A c l dn fu fa size w hr hc hG)
  rw [hO] at HOP
  dsimp only at HOP
  have HO := Aside0.mk hO
  clear hO
  have H := Aside0.mk (Sep.start w)
  go_enter Tryz.func4, Tryz.ntmps4
  go_wp2_with (first
 | ((with_reducible refine gate_dst (N := 2) rfl ?_);
    refine new_box rfl H (cs := [.slice A l.length c, .bool dn, .int .i64 fu, .int .i64 fa]) (t := 27) ?hr ?_;
    (case hr => first | (go_simp; done) | (go_simp; rfl));
    intro gd wd1 n_;
    simp only [Act.put, List.setIfInBounds_toArray, List.set_cons_zero, List.set_cons_succ];
    clear H;
    have H := n_;
    clear n_;
    have c_d := H.out.cell (g := gd) mem0)
 | fail)
  refine ((lives_any _ (HG.out.below H.out.below)).mono ?_)
  rintro e wd2 ⟨rfl, hb_⟩
  have n_ : Aside0 (Sep w wd2 [box gd [.slice A l.length c, .bool dn, .int .i64 fu, .int .i64 fa] 27]) := ⟨H.out.step hb_⟩
  clear H c_d
  have H := n_
  clear n_
  have c_d := H.out.cell (g := gd) mem0
  clear hb_
  go_wp2_with fail
  refine ((HOP.out A c _ (H.out.came HRp.out) HCp.out (HG.out.below H.out.below)).mono ?_)
  rintro e wd3 ⟨A1, c1, A2, c2, rfl, HJ⟩
  have n_ : Aside0 (Sep w wd3 [row k67 67 (.slice A1 (R.l).length c1) R.l, row k62 62 (.slice A2 (rs).length c2) rs, box gd [.slice A l.length c, .bool dn, .int .i64 fu, .int .i64 fa] 27]) := ⟨sep_join H.out HJ.out⟩
  clear H c_d
  have H := n_
  clear n_
  have c_d := H.out.cell (g := gd) mem2
  clear HJ
  simp only [lgc]
  by_cases hz : why = 0
  ·
    subst hz
    obtain ⟨ds, n, m, hw, hrs, hsz⟩ := open_whole HO.out
    have HW := Aside0.mk hw
    have hRl : R.l.length ≤ 64 := right_len hw.right
    have HOP2 := Aside0.mk (fun A c w hr hc hG => open_any A c R.l R.dn R.fu R.fa R.size w hr hc hG)
    rw [hw.opens, ← hrs] at HOP2
    dsimp only at HOP2
    rw [hsz] at HOP2
    have HRC := Aside0.mk (fun A c w hr hc hG => records_any A c R w hr hc hG)
    rw [hw.records, ← hrs] at HRC
    dsimp only at HRC
    have hnm := chain_next SU n _ ds m hw.ch
    have hmm := hw.top
    unfold most at hmm
    have hfr := hw.fr
    have hnx := hw.nx
    have hlen : rs.length = ds.length := by rw [hrs, recR_length]
    have HGET : Aside0 (∀ (i : Nat) (x : S62), rs[i]? = some x → x.f0 = ((n + i : Nat) : Int)) := ⟨fun i x hx => recR_get ds n i x (by rw [← hrs]; exact hx)⟩
    have HSR := Aside0.mk (samerec_refl rs (by omega))
    have HSM := Aside0.mk (same10_refl R hRl)
    have hfr0 : 0 ≤ R.fr := by omega
    have hfr1 : R.fr + (rs.length : Int) = R.nx := by omega
    have hnx1 : R.nx ≤ 4611686018427387904 := by omega
    have HFR := Aside0.mk hfr
    have HF0 := Aside0.mk hfr0
    have HF1 := Aside0.mk hfr1
    have HX1 := Aside0.mk hnx1
    clear hfr0 hfr1 hnx1 hRl
    clear hw hrs hnm hmm hfr hnx hlen hsz
    go_wp2_with (first
 | ((with_reducible refine gate_dst (N := 5) rfl ?_);
    refine new_box rfl H (cs := [.slice none 0 0, .bool false, .int .i64 0, .int .i64 0, .int .i64 0, .int .u64 0, .int .u64 0, .bool false]) (t := 30) ?hr ?_;
    (case hr => first | (go_simp; done) | (go_simp; rfl));
    intro gb5 wd4 n_;
    simp only [Act.put, List.setIfInBounds_toArray, List.set_cons_zero, List.set_cons_succ];
    clear H c_d;
    have H := n_;
    clear n_;
    have c_b5 := H.out.cell (g := gb5) mem0;
    have z_b5 := H.out.frozen (g := gb5) mem0;
    have c_d := H.out.cell (g := gd) mem3)
 | ((with_reducible refine gate_store (t := 30) (p := 5) rfl ?_);
    refine put_box (rs1 := [box gb5 [.slice A1 R.l.length c1, .bool R.dn, .int .i64 R.fu, .int .i64 R.fa, .int .i64 R.size, .int .u64 R.fr, .int .u64 R.nx, .bool R.br] 30, row k67 67 (.slice A1 (R.l).length c1) R.l, row k62 62 (.slice A2 (rs).length c2) rs, box gd [.slice A l.length c, .bool dn, .int .i64 fu, .int .i64 fa] 27]) rfl (t := 30) (p := 5) rfl rfl ?hr (H1 := (Sep.set0 (Sep.set0 (Sep.set0 (Sep.set0 (Sep.set0 (Sep.set0 (Sep.set0 (Sep.set0 H.out 0 (.slice A1 R.l.length c1) rfl) 1 (.bool R.dn) rfl) 2 (.int .i64 R.fu) rfl) 3 (.int .i64 R.fa) rfl) 4 (.int .i64 R.size) rfl) 5 (.int .u64 R.fr) rfl) 6 (.int .u64 R.nx) rfl) 7 (.bool R.br) rfl)) ?_;
    (case hr => first | (go_simp; done) | (go_simp; rfl));
    intro wd5 n_;
    clear H c_b5 z_b5 c_d;
    have H := n_;
    clear n_;
    have c_b5 := H.out.cell (g := gb5) mem0;
    have z_b5 := H.out.frozen (g := gb5) mem0;
    have c_d := H.out.cell (g := gd) mem3)
 | fail)
    refine ((HOP2.out _ _ _ (H.out.reads mem1).2.2 (H.out.reads mem1).2.1 (HG.out.below H.out.below)).mono ?_)
    rintro e wd6 ⟨A3, c3, A4, c4, rfl, HJ⟩
    have n_ : Aside0 (Sep w wd6 [row k67 67 (.slice A3 (R.l).length c3) R.l, row k62 62 (.slice A4 (rs).length c4) rs, box gb5 [.slice A1 R.l.length c1, .bool R.dn, .int .i64 R.fu, .int .i64 R.fa, .int .i64 R.size, .int .u64 R.fr, .int .u64 R.nx, .bool R.br] 30, row k67 67 (.slice A1 (R.l).length c1) R.l, row k62 62 (.slice A2 (rs).length c2) rs, box gd [.slice A l.length c, .bool dn, .int .i64 fu, .int .i64 fa] 27]) := ⟨sep_join H.out HJ.out⟩
    clear H c_b5 z_b5 c_d
    have H := n_
    clear n_
    have c_b5 := H.out.cell (g := gb5) mem2
    have z_b5 := H.out.frozen (g := gb5) mem2
    have c_d := H.out.cell (g := gd) mem5
    clear HJ
    simp only [lgc]
    go_wp2_with (first
 | ((with_reducible refine gate_dst (N := 8) rfl ?_);
    refine new_box rfl H (cs := [.slice none 0 0, .bool false, .int .i64 0, .int .i64 0, .int .i64 0, .int .u64 0, .int .u64 0, .bool false]) (t := 30) ?hr ?_;
    (case hr => first | (go_simp; done) | (go_simp; rfl));
    intro gb8 wd7 n_;
    simp only [Act.put, List.setIfInBounds_toArray, List.set_cons_zero, List.set_cons_succ];
    clear H c_b5 z_b5 c_d;
    have H := n_;
    clear n_;
    have c_b8 := H.out.cell (g := gb8) mem0;
    have z_b8 := H.out.frozen (g := gb8) mem0;
    have c_b5 := H.out.cell (g := gb5) mem3;
    have c_d := H.out.cell (g := gd) mem6)
 | ((with_reducible refine gate_store (t := 30) (p := 8) rfl ?_);
    refine put_box (rs1 := [box gb8 [.slice A3 R.l.length c3, .bool R.dn, .int .i64 R.fu, .int .i64 R.fa, .int .i64 R.size, .int .u64 R.fr, .int .u64 R.nx, .bool R.br] 30, row k67 67 (.slice A3 (R.l).length c3) R.l, row k62 62 (.slice A4 (rs).length c4) rs, box gb5 [.slice A1 R.l.length c1, .bool R.dn, .int .i64 R.fu, .int .i64 R.fa, .int .i64 R.size, .int .u64 R.fr, .int .u64 R.nx, .bool R.br] 30, row k67 67 (.slice A1 (R.l).length c1) R.l, row k62 62 (.slice A2 (rs).length c2) rs, box gd [.slice A l.length c, .bool dn, .int .i64 fu, .int .i64 fa] 27]) rfl (t := 30) (p := 8) rfl rfl ?hr (H1 := (Sep.set0 (Sep.set0 (Sep.set0 (Sep.set0 (Sep.set0 (Sep.set0 (Sep.set0 (Sep.set0 H.out 0 (.slice A3 R.l.length c3) rfl) 1 (.bool R.dn) rfl) 2 (.int .i64 R.fu) rfl) 3 (.int .i64 R.fa) rfl) 4 (.int .i64 R.size) rfl) 5 (.int .u64 R.fr) rfl) 6 (.int .u64 R.nx) rfl) 7 (.bool R.br) rfl)) ?_;
    (case hr => first | (go_simp; done) | (go_simp; rfl));
    intro wd8 n_;
    clear H c_b8 z_b8 c_b5 c_d;
    have H := n_;
    clear n_;
    have c_b8 := H.out.cell (g := gb8) mem0;
    have z_b8 := H.out.frozen (g := gb8) mem0;
    have c_b5 := H.out.cell (g := gb5) mem3;
    have c_d := H.out.cell (g := gd) mem6)
 | fail)
    refine ((HRC.out _ _ _ (H.out.reads mem4).2.2 (H.out.reads mem4).2.1 (HG.out.below H.out.below)).mono ?_)
    rintro e wd9 ⟨A5, c5, rfl, HJ⟩
    have n_ : Aside0 (Sep w wd9 [row k62 62 (.slice A5 (rs).length c5) rs, box gb8 [.slice A3 R.l.length c3, .bool R.dn, .int .i64 R.fu, .int .i64 R.fa, .int .i64 R.size, .int .u64 R.fr, .int .u64 R.nx, .bool R.br] 30, row k67 67 (.slice A3 (R.l).length c3) R.l, row k62 62 (.slice A4 (rs).length c4) rs, box gb5 [.slice A1 R.l.length c1, .bool R.dn, .int .i64 R.fu, .int .i64 R.fa, .int .i64 R.size, .int .u64 R.fr, .int .u64 R.nx, .bool R.br] 30, row k67 67 (.slice A1 (R.l).length c1) R.l, row k62 62 (.slice A2 (rs).length c2) rs, box gd [.slice A l.length c, .bool dn, .int .i64 fu, .int .i64 fa] 27]) := ⟨sep_join H.out HJ.out⟩
    clear H c_b8 z_b8 c_b5 c_d
    have H := n_
    clear n_
    have c_b8 := H.out.cell (g := gb8) mem1
    have z_b8 := H.out.frozen (g := gb8) mem1
    have c_b5 := H.out.cell (g := gb5) mem4
    have c_d := H.out.cell (g := gd) mem7
    clear HJ
    go_wp2_with fail
    refine ((penstockref10_Same.calls 70 A1 c1 R.l R.dn R.fu R.fa R.size R.fr R.nx R.br A3 c3 R.l R.dn R.fu R.fa R.size R.fr R.nx R.br true _ (H.out.reads mem5).2.2 (H.out.reads mem5).2.1 (H.out.reads mem2).2.2 (H.out.reads mem2).2.1 HSM.out).mono ?_)
    rintro e wd10 ⟨rfl, hb_⟩
    have n_ : Aside0 (Sep w wd10 [row k62 62 (.slice A5 (rs).length c5) rs, box gb8 [.slice A3 R.l.length c3, .bool R.dn, .int .i64 R.fu, .int .i64 R.fa, .int .i64 R.size, .int .u64 R.fr, .int .u64 R.nx, .bool R.br] 30, row k67 67 (.slice A3 (R.l).length c3) R.l, row k62 62 (.slice A4 (rs).length c4) rs, box gb5 [.slice A1 R.l.length c1, .bool R.dn, .int .i64 R.fu, .int .i64 R.fa, .int .i64 R.size, .int .u64 R.fr, .int .u64 R.nx, .bool R.br] 30, row k67 67 (.slice A1 (R.l).length c1) R.l, row k62 62 (.slice A2 (rs).length c2) rs, box gd [.slice A l.length c, .bool dn, .int .i64 fu, .int .i64 fa] 27]) := ⟨H.out.step hb_⟩
    clear H c_b8 z_b8 c_b5 c_d
    have H := n_
    clear n_
    have c_b8 := H.out.cell (g := gb8) mem1
    have z_b8 := H.out.frozen (g := gb8) mem1
    have c_b5 := H.out.cell (g := gb5) mem4
    have c_d := H.out.cell (g := gd) mem7
    clear hb_
    go_wp2_with fail
    refine ((penstockref10_SameRecords.calls (rs.length + 1) A2 c2 rs A4 c4 rs true _ (H.out.reads mem6).2.2 (H.out.reads mem6).2.1 (H.out.reads mem3).2.2 (H.out.reads mem3).2.1 HSR.out).mono ?_)
    rintro e wd11 ⟨rfl, hb_⟩
    have n_ : Aside0 (Sep w wd11 [row k62 62 (.slice A5 (rs).length c5) rs, box gb8 [.slice A3 R.l.length c3, .bool R.dn, .int .i64 R.fu, .int .i64 R.fa, .int .i64 R.size, .int .u64 R.fr, .int .u64 R.nx, .bool R.br] 30, row k67 67 (.slice A3 (R.l).length c3) R.l, row k62 62 (.slice A4 (rs).length c4) rs, box gb5 [.slice A1 R.l.length c1, .bool R.dn, .int .i64 R.fu, .int .i64 R.fa, .int .i64 R.size, .int .u64 R.fr, .int .u64 R.nx, .bool R.br] 30, row k67 67 (.slice A1 (R.l).length c1) R.l, row k62 62 (.slice A2 (rs).length c2) rs, box gd [.slice A l.length c, .bool dn, .int .i64 fu, .int .i64 fa] 27]) := ⟨H.out.step (Drawn0.below hb_)⟩
    clear H c_b8 z_b8 c_b5 c_d
    have H := n_
    clear n_
    have c_b8 := H.out.cell (g := gb8) mem1
    have z_b8 := H.out.frozen (g := gb8) mem1
    have c_b5 := H.out.cell (g := gb5) mem4
    have c_d := H.out.cell (g := gd) mem7
    clear hb_
    go_wp2_with fail
    refine ((penstockref10_SameRecords.calls (rs.length + 1) A2 c2 rs A5 c5 rs true _ (H.out.reads mem6).2.2 (H.out.reads mem6).2.1 (H.out.reads mem0).2.2 (H.out.reads mem0).2.1 HSR.out).mono ?_)
    rintro e wd12 ⟨rfl, hb_⟩
    have n_ : Aside0 (Sep w wd12 [row k62 62 (.slice A5 (rs).length c5) rs, box gb8 [.slice A3 R.l.length c3, .bool R.dn, .int .i64 R.fu, .int .i64 R.fa, .int .i64 R.size, .int .u64 R.fr, .int .u64 R.nx, .bool R.br] 30, row k67 67 (.slice A3 (R.l).length c3) R.l, row k62 62 (.slice A4 (rs).length c4) rs, box gb5 [.slice A1 R.l.length c1, .bool R.dn, .int .i64 R.fu, .int .i64 R.fa, .int .i64 R.size, .int .u64 R.fr, .int .u64 R.nx, .bool R.br] 30, row k67 67 (.slice A1 (R.l).length c1) R.l, row k62 62 (.slice A2 (rs).length c2) rs, box gd [.slice A l.length c, .bool dn, .int .i64 fu, .int .i64 fa] 27]) := ⟨H.out.step (Drawn0.below hb_)⟩
    clear H c_b8 z_b8 c_b5 c_d
    have H := n_
    clear n_
    have c_b8 := H.out.cell (g := gb8) mem1
    have z_b8 := H.out.frozen (g := gb8) mem1
    have c_b5 := H.out.cell (g := gb5) mem4
    have c_d := H.out.cell (g := gd) mem7
    clear hb_
    go_upto_if 64 with fail
    go_cut [] (fun wx => Aside0 (Sep w wx [row k62 62 (.slice A5 (rs).length c5) rs, box gb8 [.slice A3 R.l.length c3, .bool R.dn, .int .i64 R.fu, .int .i64 R.fa, .int .i64 R.size, .int .u64 R.fr, .int .u64 R.nx, .bool R.br] 30, row k67 67 (.slice A3 (R.l).length c3) R.l, row k62 62 (.slice A4 (rs).length c4) rs, box gb5 [.slice A1 R.l.length c1, .bool R.dn, .int .i64 R.fu, .int .i64 R.fa, .int .i64 R.size, .int .u64 R.fr, .int .u64 R.nx, .bool R.br] 30, row k67 67 (.slice A1 (R.l).length c1) R.l, row k62 62 (.slice A2 (rs).length c2) rs, box gd [.slice A l.length c, .bool dn, .int .i64 fu, .int .i64 fa] 27]))
    case first =>
      go_wp2_with fail
      go_meet
      exact H
    case rest =>
      have n_ := hcut
      clear hcut
      clear H c_b8 z_b8 c_b5 c_d
      have H := n_
      clear n_
      have c_b8 := H.out.cell (g := gb8) mem1
      have z_b8 := H.out.frozen (g := gb8) mem1
      have c_b5 := H.out.cell (g := gb5) mem4
      have c_d := H.out.cell (g := gd) mem7
      rename_i hK_
      refine hK_ _ _ ?_
      clear hK_
      go_wp2_with fail
      go_loopw [4, 13, 67] (fun v4 v13 v67 wr => ∃ i : Nat, v67 = .int .i64 (i : Int) ∧ i ≤ rs.length ∧ Aside0 (Sep w wr [row k62 62 (.slice A5 (rs).length c5) rs, box gb8 [.slice A3 R.l.length c3, .bool R.dn, .int .i64 R.fu, .int .i64 R.fa, .int .i64 R.size, .int .u64 R.fr, .int .u64 R.nx, .bool R.br] 30, row k67 67 (.slice A3 (R.l).length c3) R.l, row k62 62 (.slice A4 (rs).length c4) rs, box gb5 [.slice A1 R.l.length c1, .bool R.dn, .int .i64 R.fu, .int .i64 R.fa, .int .i64 R.size, .int .u64 R.fr, .int .u64 R.nx, .bool R.br] 30, row k67 67 (.slice A1 (R.l).length c1) R.l, row k62 62 (.slice A2 (rs).length c2) rs, box gd [.slice A l.length c, .bool dn, .int .i64 fu, .int .i64 fa] 27])) (fun _ _ v67 _ => rs.length - (intOf v67).toNat)
      case atStart => exact ⟨0, rfl, Nat.zero_le _, H⟩
      case round =>
        clear H c_b8 z_b8 c_b5 c_d
        obtain ⟨i, rfl, hi, H⟩ := hrel
        have c_b8 := H.out.cell (g := gb8) mem1
        have c_b5 := H.out.cell (g := gb5) mem4
        have c_d := H.out.cell (g := gd) mem7
        by_cases hil : i < rs.length
        ·
          obtain ⟨x, hx⟩ : ∃ x, rs[i]? = some x := ⟨_, List.getElem?_eq_getElem hil⟩
          obtain ⟨ar, e1⟩ := row62 (H.out.reads (A := A2) mem6).2.2 (by omega)
          subst e1
          obtain ⟨q0, q1⟩ := at62 (H.out.reads (A := some ar) mem6).2.2 hx
          have hxf : x.f0 = R.fr + (i : Int) := by rw [HGET.out i x hx, HFR.out]; omega
          have HXF := Aside0.mk hxf
          have hil2 : (i : Int) < (rs.length : Int) := by omega
          have hi0 : (0 : Int) ≤ (i : Int) := by omega
          have hw1 : IntKind.u64.wrap (i : Int) = (i : Int) := by
            have := HX1.out
            have := HF1.out
            have := HF0.out
            rw [IntKind.wrap_u64]
            omega
          have hw2 : IntKind.u64.wrap (R.fr + (i : Int)) = R.fr + (i : Int) := by
            have := HX1.out
            have := HF1.out
            have := HF0.out
            rw [IntKind.wrap_u64]
            omega
          have hbn : (x.f0 != R.fr + (i : Int)) = false := by rw [hxf]; simp
          clear hx hxf
          go_upto_region 13 with fail
          go_quiet (fail)
          go_wp2
          have hw3 : wrap64 ((i : Int) + 1) = ((i + 1 : Nat) : Int) := by
            have := HX1.out
            have := HF1.out
            have := HF0.out
            unfold wrap64
            omega
          rw [hw3]
          exact ⟨⟨i + 1, rfl, by omega, ⟨Sep.drewN H.out _⟩⟩, by simp [intOf]; omega⟩
        ·
          have hie : i = rs.length := by omega
          subst hie
          have hw1 : IntKind.u64.wrap (rs.length : Int) = (rs.length : Int) := by
            have := HX1.out
            have := HF1.out
            have := HF0.out
            rw [IntKind.wrap_u64]
            omega
          have hw2 : IntKind.u64.wrap (R.fr + (rs.length : Int)) = R.fr + (rs.length : Int) := by
            have := HX1.out
            have := HF1.out
            have := HF0.out
            rw [IntKind.wrap_u64]
            omega
          have hbe : (R.nx == R.fr + (rs.length : Int)) = true := by rw [HF1.out]; simp
          go_wp2_with fail
          go_ret
          refine ⟨?_, H.out.below⟩
          first | rfl | simp [hbe] | simp [hw1, hw2, hbe]
  ·
    have hrs : rs = [] := by
      have h := open_no (l := l) (dn := dn) (fu := fu) (fa := fa) (size := size) (by rw [HO.out]; exact hz)
      rw [HO.out] at h
      exact h
    have hl0 : ((rs.length : Int) == 0) = true := by rw [hrs]; rfl
    clear hrs
    go_wp2_with (first
 | ((with_reducible refine gate_dst (N := 5) rfl ?_);
    refine new_box rfl H (cs := [.slice none 0 0, .bool false, .int .i64 0, .int .i64 0, .int .i64 0, .int .u64 0, .int .u64 0, .bool false]) (t := 30) ?hr ?_;
    (case hr => first | (go_simp; done) | (go_simp; rfl));
    intro gb5 wd13 n_;
    simp only [Act.put, List.setIfInBounds_toArray, List.set_cons_zero, List.set_cons_succ];
    clear H c_d;
    have H := n_;
    clear n_;
    have c_b5 := H.out.cell (g := gb5) mem0;
    have z_b5 := H.out.frozen (g := gb5) mem0;
    have c_d := H.out.cell (g := gd) mem3)
 | ((with_reducible refine gate_store (t := 30) (p := 5) rfl ?_);
    refine put_box (rs1 := [box gb5 [.slice A1 R.l.length c1, .bool R.dn, .int .i64 R.fu, .int .i64 R.fa, .int .i64 R.size, .int .u64 R.fr, .int .u64 R.nx, .bool R.br] 30, row k67 67 (.slice A1 (R.l).length c1) R.l, row k62 62 (.slice A2 (rs).length c2) rs, box gd [.slice A l.length c, .bool dn, .int .i64 fu, .int .i64 fa] 27]) rfl (t := 30) (p := 5) rfl rfl ?hr (H1 := (Sep.set0 (Sep.set0 (Sep.set0 (Sep.set0 (Sep.set0 (Sep.set0 (Sep.set0 (Sep.set0 H.out 0 (.slice A1 R.l.length c1) rfl) 1 (.bool R.dn) rfl) 2 (.int .i64 R.fu) rfl) 3 (.int .i64 R.fa) rfl) 4 (.int .i64 R.size) rfl) 5 (.int .u64 R.fr) rfl) 6 (.int .u64 R.nx) rfl) 7 (.bool R.br) rfl)) ?_;
    (case hr => first | (go_simp; done) | (go_simp; rfl));
    intro wd14 n_;
    clear H c_b5 z_b5 c_d;
    have H := n_;
    clear n_;
    have c_b5 := H.out.cell (g := gb5) mem0;
    have z_b5 := H.out.frozen (g := gb5) mem0;
    have c_d := H.out.cell (g := gd) mem3)
 | fail)
    try simp only [hl0]
    go_ret
    exact ⟨rfl, H.out.below⟩
end Go.Proofs.YtanonhipicoigaaGreatDoor.U
namespace Go.Proofs.YtanonhipicoigaaGreatDoor.U
open Go.ChangeShapes Go.WideShapes Go.ChangeAt Go.WideMaps Go.WideElems Go.RowKit
set_option linter.unusedVariables false
set_option linter.unusedSimpArgs false
/-- What the segment's rows list. -/
def segLaid : List (String × DataW Unit) := [("math/bits.deBruijn32tab", Rows.laid_math_bits_deBruijn32tab), ("math/bits.deBruijn64tab", Rows.laid_math_bits_deBruijn64tab), ("internal/strconv.uint64pow10", Rows.laid_internal_strconv_uint64pow10), ("strconv.ErrRange", Rows.laid_strconv_ErrRange), ("strconv.ErrSyntax", Rows.laid_strconv_ErrSyntax)]
theorem g7 : Tryz.prog.globalNamed "math/bits.deBruijn64tab" = some 7 := by kernel_rfl
theorem g5 : Tryz.prog.globalNamed "strconv.ErrRange" = some 5 := by kernel_rfl
theorem g4 : Tryz.prog.globalNamed "strconv.ErrSyntax" = some 4 := by kernel_rfl
theorem t7 : (Tryz.prog.globals[7]?).map (·.type) = some 286 := by kernel_rfl
theorem t5 : (Tryz.prog.globals[5]?).map (·.type) = some 214 := by kernel_rfl
theorem t4 : (Tryz.prog.globals[4]?).map (·.type) = some 214 := by kernel_rfl
theorem seg_met (os : Os) (args : Array Value) : laidMetH Tryz.prog segLaid ((World.doorLaid Tryz.prog 4000 os).forCall (fun _ _ => 0) ⟨#[], args, []⟩).memory :=
  laidMetH_of_parts3 (fuel := 8) (laidMet_of_run' 8 (by kernel_rfl) (by kernel_rfl)) (by kernel_rfl) (by kernel_rfl)
set_option maxRecDepth 100000 in
theorem gl_of_laid {W : World} (h : laidMetH Tryz.prog segLaid W) : Gl W := by
  rw [MakeChecks.laidMetH_plain _ _ _ (by kernel_rfl)] at h
  obtain ⟨ps, ⟨g0, t0, cs0, f0, p0, q0, hg0, ht0, hv0, hd0, ⟨g1, t1, cs1, f1, p1, q1, hg1, ht1, hv1, hd1, ⟨g2, t2, cs2, f2, p2, q2, hg2, ht2, hv2, hd2, ⟨g3, t3, cs3, f3, p3, q3, hg3, ht3, hv3, hd3, ⟨g4', t4', cs4, f4, p4, q4, hg4, ht4, hv4, hd4, _, _⟩, _⟩, _⟩, _⟩, _⟩, _, _⟩ := h
  obtain rfl := Option.some.inj (g7.symm.trans hg1)
  obtain rfl := Option.some.inj (g5.symm.trans hg3)
  obtain rfl := Option.some.inj (g4.symm.trans hg4)
  obtain rfl := Option.some.inj (t7.symm.trans ht1)
  obtain rfl := Option.some.inj (t5.symm.trans ht3)
  obtain rfl := Option.some.inj (t4.symm.trans ht4)
  have sent : ∀ {g : Nat} {n : String} {cs : Array Value} {f : Nat} {nm : String} {d : DataW Unit} {p : List MemPlace}, Tryz.prog.globalNamed n = some g → W.var? Tryz.prog n = some cs →
      DataW.trod (fun _ => ()) Tryz.prog W 0 (fun _ => true) false f 214 cs.toList = some (.iface nm d, p) → ∃ ev, W.cell? ⟨g, 0, none⟩ = some ev ∧ (ev = .nilIface ∨ ∃ te pe, ev = .iface te pe) := by
    intro g n cs f nm d p hg hv hd
    obtain ⟨_, u, v, hcs, _⟩ := iface_of_trod Tryz.underlying214 hd
    have hc := World.var?_cell hg hv 0
    rw [Array.eq_one_of_toList hcs] at hc
    exact ⟨.iface u v, by simpa using hc, .inr ⟨u, v, rfl⟩⟩
  refine ⟨?_, sent hg4 hv4 hd4, sent hg3 hv3 hd3⟩
  obtain ⟨xs, m1, hx1, hx2, hlen, hn3, hel⟩ := DataW.trod_array Tryz.underlying286 hd1
  obtain ⟨L, eL, e15⟩ : ∃ L : List (DataW Unit), Rows.laid_math_bits_deBruijn64tab = .agg L ∧ L[15]? = some (.lit (.int .u8 4)) := ⟨_, rfl, rfl⟩
  have hx3 := (Prod.mk.inj hx2).1
  rw [eL] at hx3
  injection hx3 with hx3
  rw [hx3, List.getElem?_map] at e15
  obtain ⟨x15, hx15, hxe⟩ := Option.map_eq_some_iff.1 e15
  have h15 := hel 15 (by decide)
  rw [hx15, show Tryz.prog.cellsOf 5 = 1 by kernel_rfl] at h15
  obtain ⟨k, e1, e2, _⟩ := DataW.trod_int Tryz.underlying5 h15
  have hk : k = 4 := by
    rw [e2] at hxe
    simpa using hxe
  subst hk
  have hc := World.var?_cell hg1 hv1 15
  have hl : cs1.toList[15]? = some (.int .u8 4) := by
    have h := congrArg (·[0]?) e1
    simpa [List.getElem?_take, List.getElem?_drop] using h
  rw [hc]
  simpa using hl
end Go.Proofs.YtanonhipicoigaaGreatDoor.U
