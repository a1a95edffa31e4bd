import Derived.Test.YtanonhipicoigaaG9
import Derived.BigRegion
namespace Go.Proofs.Ytanonhipicoigaa.T
open Go.RowKit Go.Proofs.YtanonhipicoigaaW.PrintWords Go.Proofs.YtanonhipicoigaaW.PrintLast Go.Proofs.YtanonhipicoigaaW.PrintMore
set_option linter.unusedVariables false
set_option linter.unusedSimpArgs false

theorem max2_mx (k k' : IntKind) (x y : Int) : Builtin.max2 (.int k x) (.int k' y) = pure (.int k (mx x y)) := max2_int k k' x y
theorem min2_mn (k k' : IntKind) (x y : Int) : Builtin.min2 (.int k x) (.int k' y) = pure (.int k (mn x y)) := min2_int k k' x y
theorem rd_at {l : List Int} {k : Nat} (h : k < l.length) : l[k]? = some (rd l (k : Int)) := by
  simp [rd, List.getElem?_eq_getElem h]
attribute [local go_sem] max2_mx min2_mn max_two min_two   -- for this text's walks alone

/-! ### Crash -/
def crashS (x : S43) : Option Int → Int
  | none => x.f2
  | some v => x.f2 + mn (mx v 0) ((x.f1.size : Int) - x.f2)
def crash1 (x : S43) (k : Option Int) : S43 := ⟨x.f0, x.f1.extract 0 (crashS x k).toNat, crashS x k⟩
/-- The files behind a crash. -/
def crashF (l : List S43) (ks : List Int) : List S43 := l.mapIdx fun i x => crash1 x ks[i]?
theorem crashF_length (l : List S43) (ks : List Int) : (crashF l ks).length = l.length := by simp [crashF]
theorem crashF_get {l : List S43} {ks : List Int} {i : Nat} {x : S43} (h : l[i]? = some x) : (crashF l ks)[i]? = some (crash1 x ks[i]?) := by
  simp [crashF, List.getElem?_mapIdx, h]
theorem crashS_range {x : S43} (h0 : 0 ≤ x.f2) (h1 : x.f2 ≤ (x.f1.size : Int)) (k : Option Int) : x.f2 ≤ crashS x k ∧ crashS x k ≤ (x.f1.size : Int) := by
  cases k with
  | none => exact ⟨Int.le_refl _, h1⟩
  | some v =>
    simp only [crashS]
    unfold mn mx
    split <;> split <;> omega
/-- The files when so many of them are done. -/
def crashK (l : List S43) (ks : List Int) (k : Nat) : List S43 := (crashF l ks).take k ++ l.drop k
theorem crashK_length (l : List S43) (ks : List Int) (k : Nat) (h : k ≤ l.length) : (crashK l ks k).length = l.length := by
  simp [crashK, crashF_length]; omega
theorem crashK_at {l : List S43} {ks : List Int} {k : Nat} {x : S43} (h : l[k]? = some x) : (crashK l ks k)[k]? = some x := by
  have hlt : k < l.length := (List.getElem?_eq_some_iff.1 h).1
  rw [crashK, List.getElem?_append_right (by simp [crashF_length]; omega)]
  simp [crashF_length]
  rw [show min k l.length = k by omega]
  simpa using h
theorem crashK_succ {l : List S43} {ks : List Int} {k : Nat} {x : S43} (h : l[k]? = some x) : (crashK l ks k).set k (crash1 x ks[k]?) = crashK l ks (k + 1) := by
  have hlt : k < l.length := (List.getElem?_eq_some_iff.1 h).1
  have hlen : ((crashF l ks).take k).length = k := by simp [crashF_length]; omega
  rw [crashK, crashK, List.set_append_right _ _ (by omega), hlen, Nat.sub_self]
  rw [List.drop_eq_getElem_cons hlt, List.set_cons_zero, List.take_succ_eq_append_getElem (by rw [crashF_length]; exact hlt)]
  have h2 := crashF_get (ks := ks) h
  rw [List.getElem?_eq_getElem (by rw [crashF_length]; exact hlt)] at h2
  rw [Option.some.inj h2]
  simp
def disk_Crash.f (l0_0 : List (S43)) (a0_1 : Bool) (a0_2 : Int) (a0_3 : Int) (l1 : List Int) : Option ((List (S43)) × Bool × Int × Int × Int) := some (if rightF l0_0 = true then (crashF l0_0 l1, false, -1, -1, 0) else ([], false, 0, 0, 6))
set_option maxHeartbeats 8000000 in
set_option maxRecDepth 100000 in
theorem disk_Crash.calls (A0_0 : Option Addr) (c0_0 : Nat) (l0_0 : List (S43)) (a0_1 : Bool) (a0_2 : Int) (a0_3 : Int) (A1 : Option Addr) (c1 : Nat) (l1 : List Int) (r1 : List (S43)) (r2 : Bool) (r3 : Int) (r4 : Int) (r5 : Int) (w : World) (hr0_0 : Kd.C k43 w A0_0 l0_0.length l0_0) (hc0_0 : l0_0.length ≤ c0_0) (hr1 : Kd.C (Kd.int .i64) w A1 l1.length l1) (hc1 : l1.length ≤ c1) (h : disk_Crash.f l0_0 a0_1 a0_2 a0_3 l1 = some (r1, r2, r3, r4, r5)) :
    Calls Try.prog 16 #[.agg #[.slice A0_0 l0_0.length c0_0, .bool a0_1, .int .i64 a0_2, .int .i64 a0_3], .slice A1 l1.length c1] w fun e w' => ∃ v0_ : Value, e = .returned (.tuple #[.agg #[v0_, .bool r2, .int .i64 r3, .int .i64 r4], .int .i64 r5]) ∧ Kd.R k43 43 w' w.heap.size (fun _ => True) v0_ r1 ∧ Below w.heap.size w w' := by
  unfold disk_Crash.f at h
  have HE := Aside0.mk (Option.some.inj h)
  clear h
  have HR := Aside0.mk hr0_0
  have HC := Aside0.mk hc0_0
  have HK1 := Aside0.mk hr1
  have hl1 : l1.length ≤ 9223372036854775807 := hr1.2.1
  clear hr0_0 hc0_0 hr1 hc1
  have HB := Aside0.mk (Below.refl w.heap.size w)
  go_enter Try.func16, Try.ntmps16
  go_wp2_with (first
    | ((with_reducible refine gate_dst (N := 2) rfl ?_);
        refine box_event ?hg (N := 2) ?hd (cs := #[.slice A0_0 l0_0.length c0_0, .bool a0_1, .int .i64 a0_2, .int .i64 a0_3]) (t := 24) ?hr ?_;
        (case hd => rfl); (case hg => rfl); (case hr => first | (go_simp; done) | (go_simp; rfl));
        intro gd hg w1 hbox hb;
        have n0_ := Aside0.mk (below_step HB.out hb);
        clear HB; have HB := n0_; have BKD := Aside0.mk hbox; clear n0_ hg hbox hb)
    | ((with_reducible refine gate_dst (N := 4) rfl ?_);
        refine box_event ?hg (N := 4) ?hd (cs := #[.slice none 0 0, .bool false, .int .i64 0, .int .i64 0]) (t := 24) ?hr ?_;
        (case hd => rfl); (case hg => rfl); (case hr => first | (go_simp; done) | (go_simp; rfl));
        intro gr hg w3 hbox hb;
        have n0_ := Aside0.mk (below_step HB.out hb); have n1_ := Aside0.mk (blk_below BKD.out hb);
        have GR := Aside0.mk (show w.heap.size ≤ gr by rw [hg]; exact HB.out.size);
        clear HB BKD; have HB := n0_; have BKD := n1_; have BKR := Aside0.mk hbox; clear n0_ n1_ hg hbox hb;
        have d0 : w3.cell? ⟨gd, 0, none⟩ = some (.slice A0_0 l0_0.length c0_0) := (blk_cell BKD.out 0).trans rfl;
        have d1 : w3.cell? ⟨gd, 1, none⟩ = some (.bool a0_1) := (blk_cell BKD.out 1).trans rfl;
        have d2 : w3.cell? ⟨gd, 2, none⟩ = some (.int .i64 a0_2) := (blk_cell BKD.out 2).trans rfl;
        have d3 : w3.cell? ⟨gd, 3, none⟩ = some (.int .i64 a0_3) := (blk_cell BKD.out 3).trans rfl)
    | fail)
  by_cases hok : rightF l0_0 = true
  · have HE2 : Aside0 ((crashF l0_0 l1, false, (-1 : Int), (-1 : Int), (0 : Int)) = (r1, r2, r3, r4, r5)) := ⟨by have := HE.out; rwa [if_pos hok] at this⟩
    have hle : l0_0.length ≤ 64 := by
      simp only [rightF, Bool.and_eq_true, decide_eq_true_eq] at hok
      exact hok.2
    have HOK := Aside0.mk hok
    refine ((disk_Check.calls A0_0 c0_0 l0_0 a0_1 a0_2 a0_3 0 w3 (Kd.C_below HR.out HB.out) HC.out (by rw [disk_Check.f, if_pos hok])).mono ?_)
    clear hok HE
    rintro e w4 ⟨rfl, hb⟩
    have n0_ := Aside0.mk (below_step HB.out hb); have n1_ := Aside0.mk (blk_below BKD.out hb); have n2_ := Aside0.mk (blk_below BKR.out hb)
    clear HB BKD BKR d0 d1 d2 d3 hb; have HB := n0_; have BKD := n1_; have BKR := n2_; clear n0_ n1_ n2_
    have d0 : w4.cell? ⟨gd, 0, none⟩ = some (.slice A0_0 l0_0.length c0_0) := (blk_cell BKD.out 0).trans rfl
    go_wp2_with fail
    refine ((api_File.calls A0_0 c0_0 l0_0 l0_0 w4 (Kd.C_below HR.out HB.out) HC.out (by rw [api_File.f, if_pos (by omega)])).mono ?_)
    rintro e w5 ⟨v, rfl, ho, hb⟩
    have n0_ := Aside0.mk (below_step HB.out hb); have n2_ := Aside0.mk (blk_below BKR.out hb); have HO := Aside0.mk (Kd.R_lower ho HB.out.size)
    obtain ⟨A, c, e⟩ := Kd.R_slice ho
    subst e
    clear HB BKD BKR d0 hb ho; have HB := n0_; have BKR := n2_; clear n0_ n2_
    go_wp2_with (first
      | ((with_reducible refine gate_dst (N := 7) rfl ?_);
          refine box_event ?hg (N := 7) ?hd (cs := #[.slice none 0 0, .bool false, .int .i64 0, .int .i64 0]) (t := 24) ?hr ?_;
          (case hd => rfl); (case hg => rfl); (case hr => first | (go_simp; done) | (go_simp; rfl));
          intro go hg w6 hbox hb;
          have n0_ := Aside0.mk (below_step HB.out hb); have n1_ := Aside0.mk (blk_below BKR.out hb); have n2_ := Aside0.mk (Kd.R_below HO.out hb);
          have GO := Aside0.mk (show w.heap.size ≤ go by rw [hg]; exact HB.out.size); have NRO := Aside0.mk (show gr ≠ go by rw [hg]; exact Nat.ne_of_lt (blk_lt BKR.out));
          clear HB BKR HO; have HB := n0_; have BKR := n1_; have HO := n2_; have BKO := Aside0.mk hbox; clear n0_ n1_ n2_ hg hbox hb;
          have o0 : w6.cell? ⟨go, 0, none⟩ = some (.slice none 0 0) := (blk_cell BKO.out 0).trans rfl;
          have o1 : w6.cell? ⟨go, 1, none⟩ = some (.bool false) := (blk_cell BKO.out 1).trans rfl;
          have o2 : w6.cell? ⟨go, 2, none⟩ = some (.int .i64 0) := (blk_cell BKO.out 2).trans rfl;
          have o3 : w6.cell? ⟨go, 3, none⟩ = some (.int .i64 0) := (blk_cell BKO.out 3).trans rfl;
          have of0 := blk_frozen BKO.out 0; have of1 := blk_frozen BKO.out 1; have of2 := blk_frozen BKO.out 2; have of3 := blk_frozen BKO.out 3)
      | fail)
    go_loopw [23] (fun v23 wr => ∃ k : Nat, v23 = .int .i64 (k : Int) ∧ k ≤ l0_0.length ∧ Aside0 (Below w.heap.size w wr) ∧ Aside0 (wr.heap[gr]? = some (.cells #[.slice none 0 0, .bool false, .int .i64 0, .int .i64 0] 24 (0, 0)))
        ∧ Aside0 (wr.heap[go]? = some (.cells #[.slice A l0_0.length c, .bool false, .int .i64 (-1), .int .i64 (-1)] 24 (0, 0))) ∧ Aside0 (Kd.R k43 43 wr w.heap.size (fun _ => True) (.slice A l0_0.length c) (crashK l0_0 l1 k)))
      (fun v23 _ => l0_0.length - (intOf v23).toNat)
    case atStart =>
      refine ⟨0, rfl, by omega, ⟨below4 HB.out GO.out _ _ _ _⟩, ⟨far4 BKR.out NRO.out _ _ _ _⟩, ⟨put4 BKO.out _ _ _ _⟩, ⟨?_⟩⟩
      have e : crashK l0_0 l1 0 = l0_0 := by simp [crashK]
      rw [e]
      exact R4 HO.out BKO.out (by decide) _ _ _ _
    case round =>
      clear HB BKR BKO HO o0 o1 o2 o3 of0 of1 of2 of3
      obtain ⟨k, rfl, hkn, HB, BKR, BKO, HO⟩ := hrel
      by_cases hlt : k < l0_0.length
      · obtain ⟨x, hx⟩ : ∃ x, l0_0[k]? = some x := ⟨_, List.getElem?_eq_getElem hlt⟩
        have hck := crashK_length l0_0 l1 k hkn
        have hxk := crashK_at (ks := l1) hx
        have ⟨e0, e1, e2⟩ := cellsOf_get _ k x hxk
        rw [← hck] at HO
        obtain ⟨g, cur, hA, _, hg, hh, h3, h4, h5, h6⟩ := R_block HO.out (by omega)
        subst hA
        rw [hck] at HO h3
        have s1 : wr.cell? ⟨go, 0, none⟩ = some (.slice (some ⟨g, 0, none⟩) l0_0.length c) := (blk_cell BKO.out 0).trans rfl
        have s3 : wr.cell? ⟨g, k * 3 + 1, none⟩ = some (.string x.f1) := R_cell hh h6 e1
        have s4 : wr.cell? ⟨g, k * 3 + 2, none⟩ = some (.int .i64 x.f2) := R_cell hh h6 e2
        have s5 := blk_frozen hh (k * 3 + 2)
        have s6 := blk_frozen hh (k * 3 + 1)
        have NGO := Aside0.mk (show g ≠ go from other_block hh BKO.out (by decide))
        have NGR := Aside0.mk (show g ≠ gr from other_block hh BKR.out (by decide))
        have HG := Aside0.mk hg
        have HH := Aside0.mk hh
        have HX := Aside0.mk hx
        have HXK := Aside0.mk hxk
        have hr2 := right_get HOK.out hx
        have hi0 : (0 : Int) ≤ (k : Int) := by omega
        have hi1 : (k : Int) < (l0_0.length : Int) := by omega
        clear hh hg h4 h5 h6 e0 e1 e2 hx hxk hck
        by_cases hk2 : k < l1.length
        · obtain ⟨ad, e, hkc⟩ := Kd.at_int HK1.out (k : Int) (by omega) (by omega)
          subst e
          have hkb := World.block_lt_of_cell? w _ hkc
          have hne : ad.block ≠ g := fun e => by rw [add_block] at hkb; have := HG.out; omega
          have hkc' := (HB.out.cell hkb).trans hkc
          clear hkc hkb
          have hi2 : (k : Int) < (l1.length : Int) := by omega
          simp only [Int.toNat_natCast] at hkc'
          have hS := crashS_range hr2.2.2.1 hr2.2.2.2 (some (rd l1 (k : Int)))
          simp only [crashS] at hS
          have hm1 : 0 ≤ mn (mx (rd l1 (k : Int)) 0) ((x.f1.size : Int) - x.f2) := by omega
          have hm2 : mn (mx (rd l1 (k : Int)) 0) ((x.f1.size : Int) - x.f2) ≤ (x.f1.size : Int) - x.f2 := by omega
          go_wp2
          go_region
          go_wp2
          go_region
          go_wp2
          have el : l1[k]? = some (rd l1 (k : Int)) := rd_at hk2
          obtain ⟨q, hq⟩ : ∃ q, q = crashS x (some (rd l1 (k : Int))) := ⟨_, rfl⟩
          have e : crashK l0_0 l1 (k + 1) = (((crashK l0_0 l1 k).set k ⟨x.f0, x.f1, q⟩).set k ⟨x.f0, x.f1.extract 0 q.toNat, q⟩) := by
            rw [← crashK_succ (ks := l1) HX.out, el, List.set_set, crash1, ← hq]
          rw [show x.f2 + mn (mx (rd l1 (k : Int)) 0) ((x.f1.size : Int) - x.f2) = q from hq.symm]
          refine ⟨⟨k + 1, by congr 1, by omega, ⟨below_drew (below_set (below_drew (below_set HB.out HG.out)) HG.out)⟩,
            ⟨blk_drew (blk_far (p := ⟨g, k * 3 + 1, none⟩) (blk_drew (blk_far (p := ⟨g, k * 3 + 2, none⟩) BKR.out (fun e => NGR.out e.symm) _)) (fun e => NGR.out e.symm) _)⟩,
            ⟨blk_drew (blk_far (p := ⟨g, k * 3 + 1, none⟩) (blk_drew (blk_far (p := ⟨g, k * 3 + 2, none⟩) BKO.out (fun e => NGO.out e.symm) _)) (fun e => NGO.out e.symm) _)⟩, ⟨?_⟩⟩, by simp [intOf]; omega⟩
          have ho := HO.out
          rw [← crashK_length l0_0 l1 k hkn] at ho
          have h := R_put (u := .int .i64 q) ho (l' := (crashK l0_0 l1 k).set k ⟨x.f0, x.f1, q⟩) (by rw [List.length_set]) (cellsOf_set2 _ k x _ HXK.out) (j := k * 3 + 2) (by rw [crashK_length l0_0 l1 k hkn]; omega)
          have h := R_put (u := .string (x.f1.extract 0 q.toNat)) h (l' := ((crashK l0_0 l1 k).set k ⟨x.f0, x.f1, q⟩).set k ⟨x.f0, x.f1.extract 0 q.toNat, q⟩) (by rw [List.length_set]) (cellsOf_set1 _ k ⟨x.f0, x.f1, q⟩ _ (by rw [List.getElem?_set_self (by rw [crashK_length l0_0 l1 k hkn]; omega)])) (j := k * 3 + 1) (by rw [List.length_set, crashK_length l0_0 l1 k hkn]; omega)
          rw [List.length_set, List.length_set, crashK_length l0_0 l1 k hkn, ← e] at h
          exact h
        · go_wp2
          go_region
          go_wp2
          have e : crashK l0_0 l1 (k + 1) = ((crashK l0_0 l1 k).set k ⟨x.f0, x.f1.extract 0 x.f2.toNat, x.f2⟩) := by
            rw [← crashK_succ (ks := l1) HX.out, List.getElem?_eq_none (by omega)]
            rfl
          refine ⟨⟨k + 1, by congr 1, by omega, ⟨below_drew (below_set HB.out HG.out)⟩, ⟨blk_drew (blk_far (p := ⟨g, k * 3 + 1, none⟩) BKR.out (fun e => NGR.out e.symm) _)⟩, ⟨blk_drew (blk_far (p := ⟨g, k * 3 + 1, none⟩) BKO.out (fun e => NGO.out e.symm) _)⟩, ⟨?_⟩⟩, by simp [intOf]; omega⟩
          have ho := HO.out
          rw [← crashK_length l0_0 l1 k hkn] at ho
          have h := R_put (u := .string (x.f1.extract 0 x.f2.toNat)) ho (l' := (crashK l0_0 l1 k).set k ⟨x.f0, x.f1.extract 0 x.f2.toNat, x.f2⟩) (by rw [List.length_set]) (cellsOf_set1 _ k x _ HXK.out) (j := k * 3 + 1) (by rw [crashK_length l0_0 l1 k hkn]; omega)
          rw [List.length_set, crashK_length l0_0 l1 k hkn, ← e] at h
          exact h
      · obtain rfl : k = l0_0.length := by omega
        have o0 : wr.cell? ⟨go, 0, none⟩ = some (.slice A l0_0.length c) := (blk_cell BKO.out 0).trans rfl
        have o1 : wr.cell? ⟨go, 1, none⟩ = some (.bool false) := (blk_cell BKO.out 1).trans rfl
        have o2 : wr.cell? ⟨go, 2, none⟩ = some (.int .i64 (-1)) := (blk_cell BKO.out 2).trans rfl
        have o3 : wr.cell? ⟨go, 3, none⟩ = some (.int .i64 (-1)) := (blk_cell BKO.out 3).trans rfl
        have b0 : wr.cell? ⟨gr, 0, none⟩ = some (.slice none 0 0) := (blk_cell BKR.out 0).trans rfl
        have b1 : wr.cell? ⟨gr, 1, none⟩ = some (.bool false) := (blk_cell BKR.out 1).trans rfl
        have b2 : wr.cell? ⟨gr, 2, none⟩ = some (.int .i64 0) := (blk_cell BKR.out 2).trans rfl
        have b3 : wr.cell? ⟨gr, 3, none⟩ = some (.int .i64 0) := (blk_cell BKR.out 3).trans rfl
        have bf0 := blk_frozen BKR.out 0
        have bf1 := blk_frozen BKR.out 1
        have bf2 := blk_frozen BKR.out 2
        have bf3 := blk_frozen BKR.out 3
        go_wp2_with fail
        refine bodyPost_ret (results_ct rfl _ _ gr 24 #[.slice A l0_0.length c, .bool false, .int .i64 (-1), .int .i64 (-1)] (0, 0) _ rfl (put4 BKR.out _ _ _ _) Try.underlying24 rfl (by kernel_rfl)) rfl ?_
        have e := HE2.out
        simp only [Prod.mk.injEq] at e
        obtain ⟨rfl, rfl, rfl, rfl, rfl⟩ := e
        have e : crashK l0_0 l1 l0_0.length = crashF l0_0 l1 := by
          rw [crashK, List.take_of_length_le (by rw [crashF_length]; omega), List.drop_length, List.append_nil]
        rw [← e]
        exact ⟨_, rfl, R4 HO.out BKR.out (by decide) _ _ _ _, below4 HB.out GR.out _ _ _ _⟩
  · refine ((disk_Check.calls A0_0 c0_0 l0_0 a0_1 a0_2 a0_3 6 w3 (Kd.C_below HR.out HB.out) HC.out (by rw [disk_Check.f, if_neg hok])).mono ?_)
    have HE2 : Aside0 ((([] : List S43), false, (0 : Int), (0 : Int), (6 : Int)) = (r1, r2, r3, r4, r5)) := ⟨by have := HE.out; rwa [if_neg hok] at this⟩
    clear hok HE
    rintro e w4 ⟨rfl, hb⟩
    have n0_ := Aside0.mk (below_step HB.out hb); have n2_ := Aside0.mk (blk_below BKR.out hb)
    clear HB BKD BKR d0 d1 d2 d3 hb; have HB := n0_; have BKR := n2_; clear n0_ n2_
    have b0 : w4.cell? ⟨gr, 0, none⟩ = some (.slice none 0 0) := (blk_cell BKR.out 0).trans rfl
    have b1 : w4.cell? ⟨gr, 1, none⟩ = some (.bool false) := (blk_cell BKR.out 1).trans rfl
    have b2 : w4.cell? ⟨gr, 2, none⟩ = some (.int .i64 0) := (blk_cell BKR.out 2).trans rfl
    have b3 : w4.cell? ⟨gr, 3, none⟩ = some (.int .i64 0) := (blk_cell BKR.out 3).trans rfl
    have bf0 := blk_frozen BKR.out 0
    have bf1 := blk_frozen BKR.out 1
    have bf2 := blk_frozen BKR.out 2
    have bf3 := blk_frozen BKR.out 3
    go_wp2_with fail
    refine bodyPost_ret (results_ct rfl _ _ gr 24 #[.slice none 0 0, .bool false, .int .i64 0, .int .i64 0] (0, 0) _ rfl (put4 BKR.out _ _ _ _) Try.underlying24 rfl (by kernel_rfl)) rfl ?_
    have e := HE2.out
    simp only [Prod.mk.injEq] at e
    obtain ⟨rfl, rfl, rfl, rfl, rfl⟩ := e
    exact ⟨_, rfl, Kd.R_nil _ _ _ _ _, below4 HB.out GR.out _ _ _ _⟩

end Go.Proofs.Ytanonhipicoigaa.T
