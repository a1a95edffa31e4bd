import Derived.Test.YtanonhipicoigaaG8
namespace Go.Proofs.Ytanonhipicoigaa.T
open Go.RowKit Go.Proofs.YtanonhipicoigaaW.PrintWords Go.Proofs.YtanonhipicoigaaW.PrintLast Go.Proofs.YtanonhipicoigaaW.PrintMore
set_option linter.unusedVariables false
set_option linter.unusedSimpArgs false


/-! ### Create -/
def disk_Create.f (l0_0 : List (S43)) (a0_1 : Bool) (a0_2 : Int) (a0_3 : Int) (a1 : ByteArray) : Option ((List (S43)) × Bool × Int × Int × Int) := some (changedF l0_0 a0_1 a0_2 a0_3 a1 false (rfC a1 l0_0.length) (fun i => l0_0.take i.toNat ++ [(⟨a1, ⟨#[]⟩, 0⟩ : S43)] ++ l0_0.drop i.toNat))
set_option maxHeartbeats 4000000 in
set_option maxRecDepth 100000 in
theorem disk_Create.calls (A0_0 : Option Addr) (c0_0 : Nat) (l0_0 : List (S43)) (a0_1 : Bool) (a0_2 : Int) (a0_3 : Int) (a1 : ByteArray) (r1 : List (S43)) (r2 : Bool) (r3 : Int) (r4 : Int) (r5 : Int) (w : World) (hr0_0 : Kd.C k43 w A0_0 l0_0.length l0_0) (hc0_0 : l0_0.length ≤ c0_0) (h : disk_Create.f l0_0 a0_1 a0_2 a0_3 a1 = some (r1, r2, r3, r4, r5)) :
    Calls Try.prog 27 #[.agg #[.slice A0_0 l0_0.length c0_0, .bool a0_1, .int .i64 a0_2, .int .i64 a0_3], .string a1] w fun e w' => ∃ v0_ : Value, e = .returned (.tuple #[.agg #[v0_, .bool r2, .int .i64 r3, .int .i64 r4], .int .i64 r5]) ∧ Kd.R k43 43 w' w.heap.size (fun _ => True) v0_ r1 ∧ Below w.heap.size w w' := by
  unfold disk_Create.f at h
  have HE := Aside0.mk (Option.some.inj h)
  clear h
  have HR := Aside0.mk hr0_0
  have HC := Aside0.mk hc0_0
  clear hr0_0 hc0_0
  have HB := Aside0.mk (Below.refl w.heap.size w)
  go_enter Try.func27, Try.ntmps27
  go_wp2_with (first
    | ((with_reducible refine gate_dst (N := 2) rfl ?_);
        refine box_event ?hg (N := 2) ?hd (cs := #[.slice A0_0 l0_0.length c0_0, .bool a0_1, .int .i64 a0_2, .int .i64 a0_3]) (t := 24) ?hr ?_;
        (case hd => rfl); (case hg => rfl); (case hr => first | (go_simp; done) | (go_simp; rfl));
        intro gd hg w1 hbox hb;
        have n0_ := Aside0.mk (below_step HB.out hb);
        clear HB; have HB := n0_; have BKD := Aside0.mk hbox; clear n0_ hg hbox hb)
    | ((with_reducible refine gate_dst (N := 3) rfl ?_);
        refine box_event ?hg (N := 3) ?hd (cs := #[.string a1]) (t := 9) ?hr ?_;
        (case hd => rfl); (case hg => rfl); (case hr => first | (go_simp; done) | (go_simp; rfl));
        intro gn hg w2 hbox hb;
        have n0_ := Aside0.mk (below_step HB.out hb); have n1_ := Aside0.mk (blk_below BKD.out hb);
        clear HB BKD; have HB := n0_; have BKD := n1_; have BKN := Aside0.mk hbox; clear n0_ n1_ hg hbox hb)
    | ((with_reducible refine gate_dst (N := 4) rfl ?_);
        refine box_event ?hg (N := 4) ?hd (cs := #[.slice none 0 0, .bool false, .int .i64 0, .int .i64 0]) (t := 24) ?hr ?_;
        (case hd => rfl); (case hg => rfl); (case hr => first | (go_simp; done) | (go_simp; rfl));
        intro gr hg w3 hbox hb;
        have n0_ := Aside0.mk (below_step HB.out hb); have n1_ := Aside0.mk (blk_below BKD.out hb); have n2_ := Aside0.mk (blk_below BKN.out hb);
        have GR := Aside0.mk (show w.heap.size ≤ gr by rw [hg]; exact HB.out.size);
        clear HB BKD BKN; have HB := n0_; have BKD := n1_; have BKN := n2_; have BKR := Aside0.mk hbox; clear n0_ n1_ n2_ hg hbox hb;
        have d0 : w3.cell? ⟨gd, 0, none⟩ = some (.slice A0_0 l0_0.length c0_0) := (blk_cell BKD.out 0).trans rfl;
        have d1 : w3.cell? ⟨gd, 1, none⟩ = some (.bool a0_1) := (blk_cell BKD.out 1).trans rfl;
        have d2 : w3.cell? ⟨gd, 2, none⟩ = some (.int .i64 a0_2) := (blk_cell BKD.out 2).trans rfl;
        have d3 : w3.cell? ⟨gd, 3, none⟩ = some (.int .i64 a0_3) := (blk_cell BKD.out 3).trans rfl; have dn : w3.cell? ⟨gn, 0, none⟩ = some (.string a1) := (blk_cell BKN.out 0).trans rfl)
    | fail)
  refine ((changed_any 42 _ (fun args w => enters_ Try.func42 (by kernel_rfl) (by kernel_rfl) args w) A0_0 c0_0 l0_0 a0_1 a0_2 a0_3 a1 w3 (Kd.C_below HR.out HB.out) HC.out false (rfC a1 l0_0.length) (fun i => l0_0.take i.toNat ++ [(⟨a1, ⟨#[]⟩, 0⟩ : S43)] ++ l0_0.drop i.toNat) ?hof).mono ?_)
  case hof => exact create_of w3 gn l0_0 a0_1 a0_2 a0_3 a1 _ (fun i hi => by simp) BKN.out
  rw [HE.out]
  rintro e w4 ⟨v, rfl, ho, hb⟩
  have HO := Aside0.mk (Kd.R_lower ho HB.out.size)
  obtain ⟨A4, c4, e4⟩ := Kd.R_slice ho
  subst e4
  have n0_ := Aside0.mk (below_step HB.out hb)
  have bk := blk_below BKR.out hb
  have c0 := (blk_cell bk 0).trans rfl
  have c1 := (blk_cell bk 1).trans rfl
  have c2 := (blk_cell bk 2).trans rfl
  have c3 := (blk_cell bk 3).trans rfl
  have f0 := blk_frozen bk 0
  have f1 := blk_frozen bk 1
  have f2 := blk_frozen bk 2
  have f3 := blk_frozen bk 3
  have BK4 := Aside0.mk bk
  clear ho hb bk HB BKD BKR d0 d1 d2 d3 BKN dn
  go_wp2
  refine bodyPost_ret (results_ct rfl _ _ gr 24 #[.slice A4 r1.length c4, .bool r2, .int .i64 r3, .int .i64 r4] (0, 0) _ rfl (put4 BK4.out _ _ _ _) Try.underlying24 rfl (by kernel_rfl)) rfl ?_
  exact ⟨_, rfl, R4 HO.out BK4.out (by decide) _ _ _ _, below4 n0_.out GR.out _ _ _ _⟩

/-! ### Append -/
def disk_Append.f (l0_0 : List (S43)) (a0_1 : Bool) (a0_2 : Int) (a0_3 : Int) (a1 : ByteArray) (a2 : ByteArray) : Option ((List (S43)) × Bool × Int × Int × Int) := some (changedF l0_0 a0_1 a0_2 a0_3 a1 true (rfW a2 l0_0) (fun i => l0_0.set i.toNat ⟨(rd_T43 l0_0 i).f0, (rd_T43 l0_0 i).f1 ++ a2, (rd_T43 l0_0 i).f2⟩))
set_option maxHeartbeats 4000000 in
set_option maxRecDepth 100000 in
theorem disk_Append.calls (A0_0 : Option Addr) (c0_0 : Nat) (l0_0 : List (S43)) (a0_1 : Bool) (a0_2 : Int) (a0_3 : Int) (a1 : ByteArray) (a2 : ByteArray) (r1 : List (S43)) (r2 : Bool) (r3 : Int) (r4 : Int) (r5 : Int) (w : World) (hr0_0 : Kd.C k43 w A0_0 l0_0.length l0_0) (hc0_0 : l0_0.length ≤ c0_0) (h : disk_Append.f l0_0 a0_1 a0_2 a0_3 a1 a2 = some (r1, r2, r3, r4, r5)) :
    Calls Try.prog 11 #[.agg #[.slice A0_0 l0_0.length c0_0, .bool a0_1, .int .i64 a0_2, .int .i64 a0_3], .string a1, .string a2] w fun e w' => ∃ v0_ : Value, e = .returned (.tuple #[.agg #[v0_, .bool r2, .int .i64 r3, .int .i64 r4], .int .i64 r5]) ∧ Kd.R k43 43 w' w.heap.size (fun _ => True) v0_ r1 ∧ Below w.heap.size w w' := by
  unfold disk_Append.f at h
  have HE := Aside0.mk (Option.some.inj h)
  clear h
  have HR := Aside0.mk hr0_0
  have HC := Aside0.mk hc0_0
  clear hr0_0 hc0_0
  have HB := Aside0.mk (Below.refl w.heap.size w)
  go_enter Try.func11, Try.ntmps11
  go_wp2_with (first
    | ((with_reducible refine gate_dst (N := 3) rfl ?_);
        refine box_event ?hg (N := 3) ?hd (cs := #[.slice A0_0 l0_0.length c0_0, .bool a0_1, .int .i64 a0_2, .int .i64 a0_3]) (t := 24) ?hr ?_;
        (case hd => rfl); (case hg => rfl); (case hr => first | (go_simp; done) | (go_simp; rfl));
        intro gd hg w1 hbox hb;
        have n0_ := Aside0.mk (below_step HB.out hb);
        clear HB; have HB := n0_; have BKD := Aside0.mk hbox; clear n0_ hg hbox hb)
    | ((with_reducible refine gate_dst (N := 5) rfl ?_);
        refine box_event ?hg (N := 5) ?hd (cs := #[.string a2]) (t := 9) ?hr ?_;
        (case hd => rfl); (case hg => rfl); (case hr => first | (go_simp; done) | (go_simp; rfl));
        intro gn hg w2 hbox hb;
        have n0_ := Aside0.mk (below_step HB.out hb); have n1_ := Aside0.mk (blk_below BKD.out hb);
        clear HB BKD; have HB := n0_; have BKD := n1_; have BKN := Aside0.mk hbox; clear n0_ n1_ hg hbox hb)
    | ((with_reducible refine gate_dst (N := 6) rfl ?_);
        refine box_event ?hg (N := 6) ?hd (cs := #[.slice none 0 0, .bool false, .int .i64 0, .int .i64 0]) (t := 24) ?hr ?_;
        (case hd => rfl); (case hg => rfl); (case hr => first | (go_simp; done) | (go_simp; rfl));
        intro gr hg w3 hbox hb;
        have n0_ := Aside0.mk (below_step HB.out hb); have n1_ := Aside0.mk (blk_below BKD.out hb); have n2_ := Aside0.mk (blk_below BKN.out hb);
        have GR := Aside0.mk (show w.heap.size ≤ gr by rw [hg]; exact HB.out.size);
        clear HB BKD BKN; have HB := n0_; have BKD := n1_; have BKN := n2_; have BKR := Aside0.mk hbox; clear n0_ n1_ n2_ hg hbox hb;
        have d0 : w3.cell? ⟨gd, 0, none⟩ = some (.slice A0_0 l0_0.length c0_0) := (blk_cell BKD.out 0).trans rfl;
        have d1 : w3.cell? ⟨gd, 1, none⟩ = some (.bool a0_1) := (blk_cell BKD.out 1).trans rfl;
        have d2 : w3.cell? ⟨gd, 2, none⟩ = some (.int .i64 a0_2) := (blk_cell BKD.out 2).trans rfl;
        have d3 : w3.cell? ⟨gd, 3, none⟩ = some (.int .i64 a0_3) := (blk_cell BKD.out 3).trans rfl; have dn : w3.cell? ⟨gn, 0, none⟩ = some (.string a2) := (blk_cell BKN.out 0).trans rfl)
    | fail)
  refine ((changed_any 33 _ (fun args w => enters_ Try.func33 (by kernel_rfl) (by kernel_rfl) args w) A0_0 c0_0 l0_0 a0_1 a0_2 a0_3 a1 w3 (Kd.C_below HR.out HB.out) HC.out true (rfW a2 l0_0) (fun i => l0_0.set i.toNat ⟨(rd_T43 l0_0 i).f0, (rd_T43 l0_0 i).f1 ++ a2, (rd_T43 l0_0 i).f2⟩) ?hof).mono ?_)
  case hof => exact write_of w3 gn l0_0 a0_1 a0_2 a0_3 a2 _ (fun i x hx hs => by simp only [Int.toNat_natCast]; rw [rd_get hx]) BKN.out
  rw [HE.out]
  rintro e w4 ⟨v, rfl, ho, hb⟩
  have HO := Aside0.mk (Kd.R_lower ho HB.out.size)
  obtain ⟨A4, c4, e4⟩ := Kd.R_slice ho
  subst e4
  have n0_ := Aside0.mk (below_step HB.out hb)
  have bk := blk_below BKR.out hb
  have c0 := (blk_cell bk 0).trans rfl
  have c1 := (blk_cell bk 1).trans rfl
  have c2 := (blk_cell bk 2).trans rfl
  have c3 := (blk_cell bk 3).trans rfl
  have f0 := blk_frozen bk 0
  have f1 := blk_frozen bk 1
  have f2 := blk_frozen bk 2
  have f3 := blk_frozen bk 3
  have BK4 := Aside0.mk bk
  clear ho hb bk HB BKD BKR d0 d1 d2 d3 BKN dn
  go_wp2
  refine bodyPost_ret (results_ct rfl _ _ gr 24 #[.slice A4 r1.length c4, .bool r2, .int .i64 r3, .int .i64 r4] (0, 0) _ rfl (put4 BK4.out _ _ _ _) Try.underlying24 rfl (by kernel_rfl)) rfl ?_
  exact ⟨_, rfl, R4 HO.out BK4.out (by decide) _ _ _ _, below4 n0_.out GR.out _ _ _ _⟩

/-! ### Cut -/
def disk_Cut.f (l0_0 : List (S43)) (a0_1 : Bool) (a0_2 : Int) (a0_3 : Int) (a1 : ByteArray) (a2 : Int) : Option ((List (S43)) × Bool × Int × Int × Int) := some (changedF l0_0 a0_1 a0_2 a0_3 a1 false (rfT a2 l0_0) (fun i => l0_0.set i.toNat ⟨(rd_T43 l0_0 i).f0, (rd_T43 l0_0 i).f1.extract 0 a2.toNat, a2⟩))
set_option maxHeartbeats 4000000 in
set_option maxRecDepth 100000 in
theorem disk_Cut.calls (A0_0 : Option Addr) (c0_0 : Nat) (l0_0 : List (S43)) (a0_1 : Bool) (a0_2 : Int) (a0_3 : Int) (a1 : ByteArray) (a2 : Int) (r1 : List (S43)) (r2 : Bool) (r3 : Int) (r4 : Int) (r5 : Int) (w : World) (hr0_0 : Kd.C k43 w A0_0 l0_0.length l0_0) (hc0_0 : l0_0.length ≤ c0_0) (h : disk_Cut.f l0_0 a0_1 a0_2 a0_3 a1 a2 = some (r1, r2, r3, r4, r5)) :
    Calls Try.prog 12 #[.agg #[.slice A0_0 l0_0.length c0_0, .bool a0_1, .int .i64 a0_2, .int .i64 a0_3], .string a1, .int .i64 a2] w fun e w' => ∃ v0_ : Value, e = .returned (.tuple #[.agg #[v0_, .bool r2, .int .i64 r3, .int .i64 r4], .int .i64 r5]) ∧ Kd.R k43 43 w' w.heap.size (fun _ => True) v0_ r1 ∧ Below w.heap.size w w' := by
  unfold disk_Cut.f at h
  have HE := Aside0.mk (Option.some.inj h)
  clear h
  have HR := Aside0.mk hr0_0
  have HC := Aside0.mk hc0_0
  clear hr0_0 hc0_0
  have HB := Aside0.mk (Below.refl w.heap.size w)
  go_enter Try.func12, Try.ntmps12
  go_wp2_with (first
    | ((with_reducible refine gate_dst (N := 3) rfl ?_);
        refine box_event ?hg (N := 3) ?hd (cs := #[.slice A0_0 l0_0.length c0_0, .bool a0_1, .int .i64 a0_2, .int .i64 a0_3]) (t := 24) ?hr ?_;
        (case hd => rfl); (case hg => rfl); (case hr => first | (go_simp; done) | (go_simp; rfl));
        intro gd hg w1 hbox hb;
        have n0_ := Aside0.mk (below_step HB.out hb);
        clear HB; have HB := n0_; have BKD := Aside0.mk hbox; clear n0_ hg hbox hb)
    | ((with_reducible refine gate_dst (N := 5) rfl ?_);
        refine box_event ?hg (N := 5) ?hd (cs := #[.int .i64 a2]) (t := 3) ?hr ?_;
        (case hd => rfl); (case hg => rfl); (case hr => first | (go_simp; done) | (go_simp; rfl));
        intro gn hg w2 hbox hb;
        have n0_ := Aside0.mk (below_step HB.out hb); have n1_ := Aside0.mk (blk_below BKD.out hb);
        clear HB BKD; have HB := n0_; have BKD := n1_; have BKN := Aside0.mk hbox; clear n0_ n1_ hg hbox hb)
    | ((with_reducible refine gate_dst (N := 6) rfl ?_);
        refine box_event ?hg (N := 6) ?hd (cs := #[.slice none 0 0, .bool false, .int .i64 0, .int .i64 0]) (t := 24) ?hr ?_;
        (case hd => rfl); (case hg => rfl); (case hr => first | (go_simp; done) | (go_simp; rfl));
        intro gr hg w3 hbox hb;
        have n0_ := Aside0.mk (below_step HB.out hb); have n1_ := Aside0.mk (blk_below BKD.out hb); have n2_ := Aside0.mk (blk_below BKN.out hb);
        have GR := Aside0.mk (show w.heap.size ≤ gr by rw [hg]; exact HB.out.size);
        clear HB BKD BKN; have HB := n0_; have BKD := n1_; have BKN := n2_; have BKR := Aside0.mk hbox; clear n0_ n1_ n2_ hg hbox hb;
        have d0 : w3.cell? ⟨gd, 0, none⟩ = some (.slice A0_0 l0_0.length c0_0) := (blk_cell BKD.out 0).trans rfl;
        have d1 : w3.cell? ⟨gd, 1, none⟩ = some (.bool a0_1) := (blk_cell BKD.out 1).trans rfl;
        have d2 : w3.cell? ⟨gd, 2, none⟩ = some (.int .i64 a0_2) := (blk_cell BKD.out 2).trans rfl;
        have d3 : w3.cell? ⟨gd, 3, none⟩ = some (.int .i64 a0_3) := (blk_cell BKD.out 3).trans rfl; have dn : w3.cell? ⟨gn, 0, none⟩ = some (.int .i64 a2) := (blk_cell BKN.out 0).trans rfl)
    | fail)
  refine ((changed_any 35 _ (fun args w => enters_ Try.func35 (by kernel_rfl) (by kernel_rfl) args w) A0_0 c0_0 l0_0 a0_1 a0_2 a0_3 a1 w3 (Kd.C_below HR.out HB.out) HC.out false (rfT a2 l0_0) (fun i => l0_0.set i.toNat ⟨(rd_T43 l0_0 i).f0, (rd_T43 l0_0 i).f1.extract 0 a2.toNat, a2⟩) ?hof).mono ?_)
  case hof => exact cut_of w3 gn l0_0 a0_1 a0_2 a0_3 a2 _ (fun i n x hx he hn => by subst he; simp only [Int.toNat_natCast]; rw [rd_get hx]) BKN.out
  rw [HE.out]
  rintro e w4 ⟨v, rfl, ho, hb⟩
  have HO := Aside0.mk (Kd.R_lower ho HB.out.size)
  obtain ⟨A4, c4, e4⟩ := Kd.R_slice ho
  subst e4
  have n0_ := Aside0.mk (below_step HB.out hb)
  have bk := blk_below BKR.out hb
  have c0 := (blk_cell bk 0).trans rfl
  have c1 := (blk_cell bk 1).trans rfl
  have c2 := (blk_cell bk 2).trans rfl
  have c3 := (blk_cell bk 3).trans rfl
  have f0 := blk_frozen bk 0
  have f1 := blk_frozen bk 1
  have f2 := blk_frozen bk 2
  have f3 := blk_frozen bk 3
  have BK4 := Aside0.mk bk
  clear ho hb bk HB BKD BKR d0 d1 d2 d3 BKN dn
  go_wp2
  refine bodyPost_ret (results_ct rfl _ _ gr 24 #[.slice A4 r1.length c4, .bool r2, .int .i64 r3, .int .i64 r4] (0, 0) _ rfl (put4 BK4.out _ _ _ _) Try.underlying24 rfl (by kernel_rfl)) rfl ?_
  exact ⟨_, rfl, R4 HO.out BK4.out (by decide) _ _ _ _, below4 n0_.out GR.out _ _ _ _⟩

/-! ### Sync -/
def disk_Sync.f (l0_0 : List (S43)) (a0_1 : Bool) (a0_2 : Int) (a0_3 : Int) (a1 : ByteArray) : Option ((List (S43)) × Bool × Int × Int × Int) := some (changedF l0_0 a0_1 a0_2 a0_3 a1 false (fun _ b => if b = true then 0 else 7) (fun i => l0_0.set i.toNat ⟨(rd_T43 l0_0 i).f0, (rd_T43 l0_0 i).f1, ((rd_T43 l0_0 i).f1.size : Int)⟩))
set_option maxHeartbeats 4000000 in
set_option maxRecDepth 100000 in
theorem disk_Sync.calls (A0_0 : Option Addr) (c0_0 : Nat) (l0_0 : List (S43)) (a0_1 : Bool) (a0_2 : Int) (a0_3 : Int) (a1 : ByteArray) (r1 : List (S43)) (r2 : Bool) (r3 : Int) (r4 : Int) (r5 : Int) (w : World) (hr0_0 : Kd.C k43 w A0_0 l0_0.length l0_0) (hc0_0 : l0_0.length ≤ c0_0) (h : disk_Sync.f l0_0 a0_1 a0_2 a0_3 a1 = some (r1, r2, r3, r4, r5)) :
    Calls Try.prog 29 #[.agg #[.slice A0_0 l0_0.length c0_0, .bool a0_1, .int .i64 a0_2, .int .i64 a0_3], .string a1] w fun e w' => ∃ v0_ : Value, e = .returned (.tuple #[.agg #[v0_, .bool r2, .int .i64 r3, .int .i64 r4], .int .i64 r5]) ∧ Kd.R k43 43 w' w.heap.size (fun _ => True) v0_ r1 ∧ Below w.heap.size w w' := by
  unfold disk_Sync.f at h
  have HE := Aside0.mk (Option.some.inj h)
  clear h
  have HR := Aside0.mk hr0_0
  have HC := Aside0.mk hc0_0
  clear hr0_0 hc0_0
  have HB := Aside0.mk (Below.refl w.heap.size w)
  go_enter Try.func29, Try.ntmps29
  go_wp2_with (first
    | ((with_reducible refine gate_dst (N := 2) rfl ?_);
        refine box_event ?hg (N := 2) ?hd (cs := #[.slice A0_0 l0_0.length c0_0, .bool a0_1, .int .i64 a0_2, .int .i64 a0_3]) (t := 24) ?hr ?_;
        (case hd => rfl); (case hg => rfl); (case hr => first | (go_simp; done) | (go_simp; rfl));
        intro gd hg w1 hbox hb;
        have n0_ := Aside0.mk (below_step HB.out hb);
        clear HB; have HB := n0_; have BKD := Aside0.mk hbox; clear n0_ hg hbox hb)
    | ((with_reducible refine gate_dst (N := 4) rfl ?_);
        refine box_event ?hg (N := 4) ?hd (cs := #[.slice none 0 0, .bool false, .int .i64 0, .int .i64 0]) (t := 24) ?hr ?_;
        (case hd => rfl); (case hg => rfl); (case hr => first | (go_simp; done) | (go_simp; rfl));
        intro gr hg w3 hbox hb;
        have n0_ := Aside0.mk (below_step HB.out hb); have n1_ := Aside0.mk (blk_below BKD.out hb);
        have GR := Aside0.mk (show w.heap.size ≤ gr by rw [hg]; exact HB.out.size);
        clear HB BKD; have HB := n0_; have BKD := n1_; have BKR := Aside0.mk hbox; clear n0_ n1_ hg hbox hb;
        have d0 : w3.cell? ⟨gd, 0, none⟩ = some (.slice A0_0 l0_0.length c0_0) := (blk_cell BKD.out 0).trans rfl;
        have d1 : w3.cell? ⟨gd, 1, none⟩ = some (.bool a0_1) := (blk_cell BKD.out 1).trans rfl;
        have d2 : w3.cell? ⟨gd, 2, none⟩ = some (.int .i64 a0_2) := (blk_cell BKD.out 2).trans rfl;
        have d3 : w3.cell? ⟨gd, 3, none⟩ = some (.int .i64 a0_3) := (blk_cell BKD.out 3).trans rfl)
    | fail)
  refine ((changed_any 44 _ (fun args w => enters_ Try.func44 (by kernel_rfl) (by kernel_rfl) args w) A0_0 c0_0 l0_0 a0_1 a0_2 a0_3 a1 w3 (Kd.C_below HR.out HB.out) HC.out false (fun _ b => if b = true then 0 else 7) (fun i => l0_0.set i.toNat ⟨(rd_T43 l0_0 i).f0, (rd_T43 l0_0 i).f1, ((rd_T43 l0_0 i).f1.size : Int)⟩) ?hof).mono ?_)
  case hof => exact sync_of w3 l0_0 a0_1 a0_2 a0_3 _ (fun i x hx => by simp only [Int.toNat_natCast]; rw [rd_get hx])
  rw [HE.out]
  rintro e w4 ⟨v, rfl, ho, hb⟩
  have HO := Aside0.mk (Kd.R_lower ho HB.out.size)
  obtain ⟨A4, c4, e4⟩ := Kd.R_slice ho
  subst e4
  have n0_ := Aside0.mk (below_step HB.out hb)
  have bk := blk_below BKR.out hb
  have c0 := (blk_cell bk 0).trans rfl
  have c1 := (blk_cell bk 1).trans rfl
  have c2 := (blk_cell bk 2).trans rfl
  have c3 := (blk_cell bk 3).trans rfl
  have f0 := blk_frozen bk 0
  have f1 := blk_frozen bk 1
  have f2 := blk_frozen bk 2
  have f3 := blk_frozen bk 3
  have BK4 := Aside0.mk bk
  clear ho hb bk HB BKD BKR d0 d1 d2 d3
  go_wp2
  refine bodyPost_ret (results_ct rfl _ _ gr 24 #[.slice A4 r1.length c4, .bool r2, .int .i64 r3, .int .i64 r4] (0, 0) _ rfl (put4 BK4.out _ _ _ _) Try.underlying24 rfl (by kernel_rfl)) rfl ?_
  exact ⟨_, rfl, R4 HO.out BK4.out (by decide) _ _ _ _, below4 n0_.out GR.out _ _ _ _⟩

/-! ### Remove -/
def disk_Remove.f (l0_0 : List (S43)) (a0_1 : Bool) (a0_2 : Int) (a0_3 : Int) (a1 : ByteArray) : Option ((List (S43)) × Bool × Int × Int × Int) := some (changedF l0_0 a0_1 a0_2 a0_3 a1 false (fun _ b => if b = true then 0 else 7) (fun i => l0_0.take i.toNat ++ l0_0.drop (i.toNat + 1)))
set_option maxHeartbeats 4000000 in
set_option maxRecDepth 100000 in
theorem disk_Remove.calls (A0_0 : Option Addr) (c0_0 : Nat) (l0_0 : List (S43)) (a0_1 : Bool) (a0_2 : Int) (a0_3 : Int) (a1 : ByteArray) (r1 : List (S43)) (r2 : Bool) (r3 : Int) (r4 : Int) (r5 : Int) (w : World) (hr0_0 : Kd.C k43 w A0_0 l0_0.length l0_0) (hc0_0 : l0_0.length ≤ c0_0) (h : disk_Remove.f l0_0 a0_1 a0_2 a0_3 a1 = some (r1, r2, r3, r4, r5)) :
    Calls Try.prog 13 #[.agg #[.slice A0_0 l0_0.length c0_0, .bool a0_1, .int .i64 a0_2, .int .i64 a0_3], .string a1] w fun e w' => ∃ v0_ : Value, e = .returned (.tuple #[.agg #[v0_, .bool r2, .int .i64 r3, .int .i64 r4], .int .i64 r5]) ∧ Kd.R k43 43 w' w.heap.size (fun _ => True) v0_ r1 ∧ Below w.heap.size w w' := by
  unfold disk_Remove.f at h
  have HE := Aside0.mk (Option.some.inj h)
  clear h
  have HR := Aside0.mk hr0_0
  have HC := Aside0.mk hc0_0
  clear hr0_0 hc0_0
  have HB := Aside0.mk (Below.refl w.heap.size w)
  go_enter Try.func13, Try.ntmps13
  go_wp2_with (first
    | ((with_reducible refine gate_dst (N := 2) rfl ?_);
        refine box_event ?hg (N := 2) ?hd (cs := #[.slice A0_0 l0_0.length c0_0, .bool a0_1, .int .i64 a0_2, .int .i64 a0_3]) (t := 24) ?hr ?_;
        (case hd => rfl); (case hg => rfl); (case hr => first | (go_simp; done) | (go_simp; rfl));
        intro gd hg w1 hbox hb;
        have n0_ := Aside0.mk (below_step HB.out hb);
        clear HB; have HB := n0_; have BKD := Aside0.mk hbox; clear n0_ hg hbox hb)
    | ((with_reducible refine gate_dst (N := 4) rfl ?_);
        refine box_event ?hg (N := 4) ?hd (cs := #[.slice none 0 0, .bool false, .int .i64 0, .int .i64 0]) (t := 24) ?hr ?_;
        (case hd => rfl); (case hg => rfl); (case hr => first | (go_simp; done) | (go_simp; rfl));
        intro gr hg w3 hbox hb;
        have n0_ := Aside0.mk (below_step HB.out hb); have n1_ := Aside0.mk (blk_below BKD.out hb);
        have GR := Aside0.mk (show w.heap.size ≤ gr by rw [hg]; exact HB.out.size);
        clear HB BKD; have HB := n0_; have BKD := n1_; have BKR := Aside0.mk hbox; clear n0_ n1_ hg hbox hb;
        have d0 : w3.cell? ⟨gd, 0, none⟩ = some (.slice A0_0 l0_0.length c0_0) := (blk_cell BKD.out 0).trans rfl;
        have d1 : w3.cell? ⟨gd, 1, none⟩ = some (.bool a0_1) := (blk_cell BKD.out 1).trans rfl;
        have d2 : w3.cell? ⟨gd, 2, none⟩ = some (.int .i64 a0_2) := (blk_cell BKD.out 2).trans rfl;
        have d3 : w3.cell? ⟨gd, 3, none⟩ = some (.int .i64 a0_3) := (blk_cell BKD.out 3).trans rfl)
    | fail)
  refine ((changed_any 37 _ (fun args w => enters_ Try.func37 (by kernel_rfl) (by kernel_rfl) args w) A0_0 c0_0 l0_0 a0_1 a0_2 a0_3 a1 w3 (Kd.C_below HR.out HB.out) HC.out false (fun _ b => if b = true then 0 else 7) (fun i => l0_0.take i.toNat ++ l0_0.drop (i.toNat + 1)) ?hof).mono ?_)
  case hof => exact remove_of w3 l0_0 a0_1 a0_2 a0_3 _ (fun i hi => by simp)
  rw [HE.out]
  rintro e w4 ⟨v, rfl, ho, hb⟩
  have HO := Aside0.mk (Kd.R_lower ho HB.out.size)
  obtain ⟨A4, c4, e4⟩ := Kd.R_slice ho
  subst e4
  have n0_ := Aside0.mk (below_step HB.out hb)
  have bk := blk_below BKR.out hb
  have c0 := (blk_cell bk 0).trans rfl
  have c1 := (blk_cell bk 1).trans rfl
  have c2 := (blk_cell bk 2).trans rfl
  have c3 := (blk_cell bk 3).trans rfl
  have f0 := blk_frozen bk 0
  have f1 := blk_frozen bk 1
  have f2 := blk_frozen bk 2
  have f3 := blk_frozen bk 3
  have BK4 := Aside0.mk bk
  clear ho hb bk HB BKD BKR d0 d1 d2 d3
  go_wp2
  refine bodyPost_ret (results_ct rfl _ _ gr 24 #[.slice A4 r1.length c4, .bool r2, .int .i64 r3, .int .i64 r4] (0, 0) _ rfl (put4 BK4.out _ _ _ _) Try.underlying24 rfl (by kernel_rfl)) rfl ?_
  exact ⟨_, rfl, R4 HO.out BK4.out (by decide) _ _ _ _, below4 n0_.out GR.out _ _ _ _⟩
end Go.Proofs.Ytanonhipicoigaa.T
