import Derived.Test.YtanonhipicoigaaG1
import Derived.Test.YtanonhipicoigaaG2
import Derived.Laws.EntriesVeiled
namespace Go.Proofs.Ytanonhipicoigaa.T
open Go.RowKit Go.Proofs.YtanonhipicoigaaW.PrintWords Go.Proofs.YtanonhipicoigaaW.PrintLast Go.Proofs.YtanonhipicoigaaW.PrintMore
set_option linter.unusedVariables false
set_option linter.unusedSimpArgs false

/-- A function's number that may be called. -/
def Enters (K : Nat) : Prop := ∀ (args : Array Value) (w : World), (callFunc K args).run Try.prog w = .ok (.enter K args) w

/-- What closures lead to stays: all blocks but those of changes (63), of disks (24), and p. -/
def KeepT (w2 w3 : World) (p : Option Nat) : Prop := ∀ (k : Nat) (cs : Array Value) (t : Nat), t ≠ 63 → t ≠ 24 → some k ≠ p → w2.heap[k]? = some (.cells cs t (0, 0)) → w3.heap[k]? = some (.cells cs t (0, 0))
theorem KeepT.of_below {w2 w3 : World} (h : Below w2.heap.size w2 w3) : KeepT w2 w3 none := fun _ _ _ _ _ _ hk => blk_below hk h
theorem KeepT.of_keep {w2 w3 : World} {g : Nat} (h : KeepBut w2 w3 g none) : KeepT w2 w3 (some g) := fun k _ _ _ _ hg hk => h.blk hk (fun e => hg (by rw [e])) (by simp)

/-- What a change refuses, as a function value. -/
def RefV (w2 : World) (rv : Value) (n : Nat) (rf : Int → Bool → Int) : Prop :=
  ∃ (K : Nat) (caps : Array Value), rv = .func (.func K) #[] caps ∧ Enters K ∧
    ∀ (w3 : World) (i : Nat) (b : Bool), KeepT w2 w3 none → i ≤ n → (b = true → i < n) →
      Calls Try.prog K (#[.int .i64 (i : Int), .bool b] ++ caps) w3 fun e w4 => e = .returned (.int .i64 (rf i b)) ∧ Below w3.heap.size w3 w4

/-- What a change does, as a function value. -/
def DoV (base gp : Nat) (w2 : World) (dv v : Value) (l : List S43) (rf : Int → Bool → Int) (df : Int → List S43) : Prop :=
  ∃ (K : Nat) (caps : Array Value), dv = .func (.func K) #[] caps ∧ Enters K ∧
    ∀ (w3 : World) (i : Nat) (b : Bool) (dn : Bool) (fu fa : Int), KeepT w2 w3 (some gp) → i ≤ l.length → (b = true → i < l.length) → rf i b = 0 →
      w3.heap[gp]? = some (.cells #[v, .bool dn, .int .i64 fu, .int .i64 fa] 77 (0, 0)) → Kd.R k43 43 w3 base (fun _ => True) v l →
      Calls Try.prog K (#[.int .i64 (i : Int)] ++ caps) w3 fun e w4 => e = .returned (.tuple #[]) ∧ ∃ v' : Value,
        w4.heap[gp]? = some (.cells #[v', .bool dn, .int .i64 fu, .int .i64 fa] 77 (0, 0)) ∧ Kd.R k43 43 w4 base (fun _ => True) v' (df i) ∧ Below base w3 w4 ∧
        ∀ (k : Nat) (cs : Array Value), w3.heap[k]? = some (.cells cs 24 (0, 0)) → w4.heap[k]? = some (.cells cs 24 (0, 0))

/-- What a change comes to. -/
def changedF (l : List S43) (dn : Bool) (fu fa : Int) (name : ByteArray) (wr : Bool) (rf : Int → Bool → Int) (df : Int → List S43) : List S43 × Bool × Int × Int × Int :=
  if rightF l = true then
    if dn = true then (l, dn, fu, fa, 17)
    else if rf (bsOf l name : Int) (isAt l name (bsOf l name)) = 0 then
      if fa = 0 then (l, dn, fu, -1, 18)
      else if fu = 0 then (if wr = true then df (bsOf l name : Int) else l, true, fu, (if 0 < fa then wrap64 (fa - 1) else fa), 17)
      else (df (bsOf l name : Int), dn, (if 0 < fu then wrap64 (fu - 1) else fu), (if 0 < fa then wrap64 (fa - 1) else fa), 0)
    else (l, dn, fu, fa, rf (bsOf l name : Int) (isAt l name (bsOf l name)))
  else ([], false, 0, 0, 6)

def OfV (W : World) (K : Nat) (caps : Array Value) (l : List S43) (dn : Bool) (fu fa : Int) (wr : Bool) (rf : Int → Bool → Int) (df : Int → List S43) : Prop :=
  ∀ (w1 : World) (gp : Nat) (v : Value), Below W.heap.size W w1 → W.heap.size ≤ gp → w1.heap[gp]? = some (.cells #[v, .bool dn, .int .i64 fu, .int .i64 fa] 77 (0, 0)) → Kd.R k43 43 w1 W.heap.size (fun _ => True) v l → rightF l = true →
    Calls Try.prog K (#[.pointer (some ⟨gp, 0, none⟩)] ++ caps) w1 fun e w2 => ∃ rv dv : Value, e = .returned (.agg #[rv, dv, .bool wr]) ∧ Below w1.heap.size w1 w2 ∧ RefV w2 rv l.length rf ∧ DoV W.heap.size gp w2 dv v l rf df

theorem put4 {W : World} {g t : Nat} {a0 a1 a2 a3 : Value} (h : W.heap[g]? = some (.cells #[a0, a1, a2, a3] t (0, 0))) (x0 x1 x2 x3 : Value) :
    ((((W.setCell ⟨g, 0, none⟩ x0).setCell ⟨g, 1, none⟩ x1).setCell ⟨g, 2, none⟩ x2).setCell ⟨g, 3, none⟩ x3).heap[g]? = some (.cells #[x0, x1, x2, x3] t (0, 0)) :=
  blk_put (cs := #[x0, x1, x2, a3]) (blk_put (cs := #[x0, x1, a2, a3]) (blk_put (cs := #[x0, a1, a2, a3]) (blk_put (cs := #[a0, a1, a2, a3]) h 0 _ rfl) 1 _ rfl) 2 _ rfl) 3 _ rfl
theorem far4 {W : World} {g g' t : Nat} {cs : Array Value} (h : W.heap[g]? = some (.cells cs t (0, 0))) (hp : g ≠ g') (x0 x1 x2 x3 : Value) :
    ((((W.setCell ⟨g', 0, none⟩ x0).setCell ⟨g', 1, none⟩ x1).setCell ⟨g', 2, none⟩ x2).setCell ⟨g', 3, none⟩ x3).heap[g]? = some (.cells cs t (0, 0)) :=
  blk_far (p := ⟨g', 3, none⟩) (blk_far (p := ⟨g', 2, none⟩) (blk_far (p := ⟨g', 1, none⟩) (blk_far (p := ⟨g', 0, none⟩) h hp _) hp _) hp _) hp _
theorem below4 {w W : World} {g : Nat} (h : Below w.heap.size w W) (hg : w.heap.size ≤ g) (x0 x1 x2 x3 : Value) :
    Below w.heap.size w ((((W.setCell ⟨g, 0, none⟩ x0).setCell ⟨g, 1, none⟩ x1).setCell ⟨g, 2, none⟩ x2).setCell ⟨g, 3, none⟩ x3) :=
  below_set (below_set (below_set (below_set h hg) hg) hg) hg
theorem R4 {W : World} {base g t : Nat} {cs : Array Value} {v : Value} {l : List S43} (h : Kd.R k43 43 W base (fun _ => True) v l) (hb : W.heap[g]? = some (.cells cs t (0, 0))) (ht : 43 ≠ t) (x0 x1 x2 x3 : Value) :
    Kd.R k43 43 ((((W.setCell ⟨g, 0, none⟩ x0).setCell ⟨g, 1, none⟩ x1).setCell ⟨g, 2, none⟩ x2).setCell ⟨g, 3, none⟩ x3) base (fun _ => True) v l :=
  Kd.R_mono (Kd.R_far (p := ⟨g, 3, none⟩) (Kd.R_far (p := ⟨g, 2, none⟩) (Kd.R_far (p := ⟨g, 1, none⟩) (Kd.R_far (p := ⟨g, 0, none⟩) (Kd.R_types h hb (fun q hq => by
    rw [show k43.E = [] from rfl] at hq
    rw [List.mem_singleton.1 hq]
    exact ht)) (fun _ hk => hk.2) _) (fun _ hk => hk.2) _) (fun _ hk => hk.2) _) (fun _ hk => hk.2) _) (fun _ _ => trivial)
theorem put3 {W : World} {g t : Nat} {a0 a1 a2 : Value} (h : W.heap[g]? = some (.cells #[a0, a1, a2] t (0, 0))) (x0 x1 x2 : Value) :
    (((W.setCell ⟨g, 0, none⟩ x0).setCell ⟨g, 1, none⟩ x1).setCell ⟨g, 2, none⟩ x2).heap[g]? = some (.cells #[x0, x1, x2] t (0, 0)) :=
  blk_put (cs := #[x0, x1, a2]) (blk_put (cs := #[x0, a1, a2]) (blk_put (cs := #[a0, a1, a2]) h 0 _ rfl) 1 _ rfl) 2 _ rfl
theorem far3 {W : World} {g g' t : Nat} {cs : Array Value} (h : W.heap[g]? = some (.cells cs t (0, 0))) (hp : g ≠ g') (x0 x1 x2 : Value) :
    (((W.setCell ⟨g', 0, none⟩ x0).setCell ⟨g', 1, none⟩ x1).setCell ⟨g', 2, none⟩ x2).heap[g]? = some (.cells cs t (0, 0)) :=
  blk_far (p := ⟨g', 2, none⟩) (blk_far (p := ⟨g', 1, none⟩) (blk_far (p := ⟨g', 0, none⟩) h hp _) hp _) hp _
theorem below3 {w W : World} {g : Nat} (h : Below w.heap.size w W) (hg : w.heap.size ≤ g) (x0 x1 x2 : Value) :
    Below w.heap.size w (((W.setCell ⟨g, 0, none⟩ x0).setCell ⟨g, 1, none⟩ x1).setCell ⟨g, 2, none⟩ x2) :=
  below_set (below_set (below_set h hg) hg) hg
theorem R3 {W : World} {base g t : Nat} {cs : Array Value} {v : Value} {l : List S43} (h : Kd.R k43 43 W base (fun _ => True) v l) (hb : W.heap[g]? = some (.cells cs t (0, 0))) (ht : 43 ≠ t) (x0 x1 x2 : Value) :
    Kd.R k43 43 (((W.setCell ⟨g, 0, none⟩ x0).setCell ⟨g, 1, none⟩ x1).setCell ⟨g, 2, none⟩ x2) base (fun _ => True) v l :=
  Kd.R_mono (Kd.R_far (p := ⟨g, 2, none⟩) (Kd.R_far (p := ⟨g, 1, none⟩) (Kd.R_far (p := ⟨g, 0, none⟩) (Kd.R_types h hb (fun q hq => by
    rw [show k43.E = [] from rfl] at hq
    rw [List.mem_singleton.1 hq]
    exact ht)) (fun _ hk => hk.2) _) (fun _ hk => hk.2) _) (fun _ hk => hk.2) _) (fun _ _ => trivial)
theorem R1 {W : World} {base g t j : Nat} {cs : Array Value} {v : Value} {l : List S43} (h : Kd.R k43 43 W base (fun _ => True) v l) (hb : W.heap[g]? = some (.cells cs t (0, 0))) (ht : 43 ≠ t) (x : Value) :
    Kd.R k43 43 (W.setCell ⟨g, j, none⟩ x) base (fun _ => True) v l :=
  Kd.R_mono (Kd.R_far (p := ⟨g, j, none⟩) (Kd.R_types h hb (fun q hq => by
    rw [show k43.E = [] from rfl] at hq
    rw [List.mem_singleton.1 hq]
    exact ht)) (fun _ hk => hk.2) _) (fun _ _ => trivial)

set_option maxHeartbeats 4000000 in
set_option maxRecDepth 100000 in
theorem changed_any (K : Nat) (caps : Array Value) (hK : Enters K) (A : Option Addr) (c : Nat) (l : List S43) (dn : Bool) (fu fa : Int) (name : ByteArray) (w : World)
    (hr : Kd.C k43 w A l.length l) (hc : l.length ≤ c) (wr : Bool) (rf : Int → Bool → Int) (df : Int → List S43) (HOF : OfV w K caps l dn fu fa wr rf df) :
    Calls Try.prog 32 #[.agg #[.slice A l.length c, .bool dn, .int .i64 fu, .int .i64 fa], .string name, .func (.func K) #[] caps] w fun e w' => ∃ v0_ : Value,
      e = .returned (.tuple #[.agg #[v0_, .bool (changedF l dn fu fa name wr rf df).2.1, .int .i64 (changedF l dn fu fa name wr rf df).2.2.1, .int .i64 (changedF l dn fu fa name wr rf df).2.2.2.1], .int .i64 (changedF l dn fu fa name wr rf df).2.2.2.2]) ∧
        Kd.R k43 43 w' w.heap.size (fun _ => True) v0_ (changedF l dn fu fa name wr rf df).1 ∧ Below w.heap.size w w' := by
  obtain ⟨R, hR⟩ : ∃ R, R = changedF l dn fu fa name wr rf df := ⟨_, rfl⟩
  rw [← hR]
  have HRR := Aside0.mk hR
  clear hR
  have HR := Aside0.mk hr
  have HOF' := Aside0.mk HOF
  have HK := Aside0.mk hK
  clear hr HOF hK
  have HB := Aside0.mk (Below.refl w.heap.size w)
  go_enter Try.func32, Try.ntmps32
  go_wp2_with (first
    | ((with_reducible refine gate_dst (N := 3) rfl ?_);
        refine box_event ?hg (N := 3) ?hd (cs := #[.slice A l.length c, .bool dn, .int .i64 fu, .int .i64 fa]) (t := 24) ?hr ?_;
        (case hd => rfl); (case hg => rfl); (case hr => first | (go_simp; done) | (go_simp; rfl));
        intro g3 hg w1 hbox hb;
        have n0_ := Aside0.mk (below_step HB.out hb); have n1_ := Aside0.mk (show w.heap.size ≤ g3 by rw [hg]; exact HB.out.size);
        clear HB; have HB := n0_; have G3 := n1_; have BK3 := Aside0.mk hbox; clear n0_ n1_ hg hbox hb)
    | ((with_reducible refine gate_dst (N := 6) rfl ?_);
        refine box_event ?hg (N := 6) ?hd (cs := #[.slice none 0 0, .bool false, .int .i64 0, .int .i64 0]) (t := 24) ?hr ?_;
        (case hd => rfl); (case hg => rfl); (case hr => first | (go_simp; done) | (go_simp; rfl));
        intro g6 hg w2 hbox hb;
        have n0_ := Aside0.mk (below_step HB.out hb); have n1_ := Aside0.mk (show w.heap.size ≤ g6 by rw [hg]; exact HB.out.size);
        have n2_ := Aside0.mk (blk_below BK3.out hb); have n3_ := Aside0.mk (show g3 ≠ g6 by rw [hg]; exact Nat.ne_of_lt (blk_lt BK3.out));
        clear HB BK3; have HB := n0_; have G6 := n1_; have BK3 := n2_; have N36 := n3_; have BK6 := Aside0.mk hbox; clear n0_ n1_ n2_ n3_ hg hbox hb;
        have hc3_0 : w2.cell? ⟨g3, 0, none⟩ = some (.slice A l.length c) := (blk_cell BK3.out 0).trans rfl;
        have hc3_1 : w2.cell? ⟨g3, 1, none⟩ = some (.bool dn) := (blk_cell BK3.out 1).trans rfl;
        have hc3_2 : w2.cell? ⟨g3, 2, none⟩ = some (.int .i64 fu) := (blk_cell BK3.out 2).trans rfl;
        have hc3_3 : w2.cell? ⟨g3, 3, none⟩ = some (.int .i64 fa) := (blk_cell BK3.out 3).trans rfl)
    | fail)
  by_cases hok : rightF l = true
  · have hle : l.length ≤ 64 := by
      simp only [rightF, Bool.and_eq_true, decide_eq_true_eq] at hok
      exact hok.2
    have HOK := Aside0.mk hok
    refine ((disk_Check.calls A c l dn fu fa 0 w2 (Kd.C_below HR.out HB.out) hc (by rw [disk_Check.f, if_pos hok])).mono ?_)
    clear hok
    rintro e w3 ⟨rfl, hb⟩
    have n0_ := Aside0.mk (below_step HB.out hb); have n1_ := Aside0.mk (blk_below BK3.out hb); have n2_ := Aside0.mk (blk_below BK6.out hb)
    clear HB BK3 BK6 hc3_0 hc3_1 hc3_2 hc3_3; have HB := n0_; have BK3 := n1_; have BK6 := n2_; clear n0_ n1_ n2_ hb
    have ca0 : w3.cell? ⟨g3, 0, none⟩ = some (Value.slice A l.length c) := (blk_cell BK3.out 0).trans rfl
    have fa0 := blk_frozen BK3.out 0
    have ca1 : w3.cell? ⟨g3, 1, none⟩ = some (Value.bool dn) := (blk_cell BK3.out 1).trans rfl
    have fa1 := blk_frozen BK3.out 1
    have ca2 : w3.cell? ⟨g3, 2, none⟩ = some (Value.int .i64 fu) := (blk_cell BK3.out 2).trans rfl
    have fa2 := blk_frozen BK3.out 2
    have ca3 : w3.cell? ⟨g3, 3, none⟩ = some (Value.int .i64 fa) := (blk_cell BK3.out 3).trans rfl
    have fa3 := blk_frozen BK3.out 3
    go_wp2_with fail
    refine ((api_File.calls A c l l w3 (Kd.C_below HR.out HB.out) hc (by rw [api_File.f, if_pos (by omega)])).mono ?_)
    rintro e w4 ⟨v, rfl, ho, hb⟩
    have n0_ := Aside0.mk (below_step HB.out hb); have n1_ := Aside0.mk (blk_below BK3.out hb); have n2_ := Aside0.mk (blk_below BK6.out hb); have HO := Aside0.mk (Kd.R_lower ho HB.out.size)
    clear HB BK3 BK6; clear ca0 fa0 ca1 fa1 ca2 fa2 ca3 fa3; have HB := n0_; have BK3 := n1_; have BK6 := n2_; clear n0_ n1_ n2_ hb ho
    obtain ⟨Ao, co, eo⟩ := Kd.R_slice HO.out
    subst eo
    have ca0 : w4.cell? ⟨g3, 0, none⟩ = some (Value.slice A l.length c) := (blk_cell BK3.out 0).trans rfl
    have fa0 := blk_frozen BK3.out 0
    have ca1 : w4.cell? ⟨g3, 1, none⟩ = some (Value.bool dn) := (blk_cell BK3.out 1).trans rfl
    have fa1 := blk_frozen BK3.out 1
    have ca2 : w4.cell? ⟨g3, 2, none⟩ = some (Value.int .i64 fu) := (blk_cell BK3.out 2).trans rfl
    have fa2 := blk_frozen BK3.out 2
    have ca3 : w4.cell? ⟨g3, 3, none⟩ = some (Value.int .i64 fa) := (blk_cell BK3.out 3).trans rfl
    have fa3 := blk_frozen BK3.out 3
    by_cases hdn : dn = true
    · subst hdn
      have HE : Aside0 (R = (l, true, fu, fa, 17)) := ⟨by rw [HRR.out, changedF, if_pos HOK.out, if_pos rfl]⟩
      go_wp2_with (first
        | ((with_reducible refine gate_dst (N := 26) rfl ?_);
            refine box_event ?hg (N := 26) ?hd (cs := #[(.slice Ao l.length co), .bool true, .int .i64 fu, .int .i64 fa]) (t := 77) ?hr ?_;
            (case hd => rfl); (case hg => rfl); (case hr => first | (go_simp; done) | (go_simp; rfl));
            intro gp hg w5 hbox hb;
            have m0_ := below_set (g := g3) (j := 0) (v := (.slice Ao l.length co)) HB.out G3.out;
            have m1_ := blk_put (cs' := #[(.slice Ao l.length co), .bool true, .int .i64 fu, .int .i64 fa]) BK3.out 0 (.slice Ao l.length co) rfl;
            have m2_ := blk_far (p := ⟨g3, 0, none⟩) BK6.out (fun e => N36.out e.symm) (.slice Ao l.length co);
            have m3_ := R1 (j := 0) HO.out BK3.out (by decide) (.slice Ao l.length co);
            have n0_ := Aside0.mk (below_step m0_ hb); have n1_ := Aside0.mk (show w.heap.size ≤ gp by rw [hg]; exact m0_.size);
            have n2_ := Aside0.mk (blk_below m1_ hb); have n3_ := Aside0.mk (blk_below m2_ hb); have n4_ := Aside0.mk (Kd.R_below m3_ hb);
            have n5_ := Aside0.mk (show g3 ≠ gp by rw [hg]; exact Nat.ne_of_lt (blk_lt m1_)); have n6_ := Aside0.mk (show g6 ≠ gp by rw [hg]; exact Nat.ne_of_lt (blk_lt m2_));
            clear ca0 fa0 ca1 fa1 ca2 fa2 ca3 fa3; clear HB BK3 BK6 HO m0_ m1_ m2_ m3_; have HB := n0_; have GP := n1_; have BK3 := n2_; have BK6 := n3_; have HO := n4_; have N3P := n5_; have N6P := n6_; have BKP := Aside0.mk hbox;
            clear n0_ n1_ n2_ n3_ n4_ n5_ n6_ hg hbox hb;
            have cp0 : w5.cell? ⟨gp, 0, none⟩ = some (Value.slice Ao l.length co) := (blk_cell BKP.out 0).trans rfl;
            have fp0 := blk_frozen BKP.out 0;
            have cp1 : w5.cell? ⟨gp, 1, none⟩ = some (Value.bool true) := (blk_cell BKP.out 1).trans rfl;
            have fp1 := blk_frozen BKP.out 1;
            have cp2 : w5.cell? ⟨gp, 2, none⟩ = some (Value.int .i64 fu) := (blk_cell BKP.out 2).trans rfl;
            have fp2 := blk_frozen BKP.out 2;
            have cp3 : w5.cell? ⟨gp, 3, none⟩ = some (Value.int .i64 fa) := (blk_cell BKP.out 3).trans rfl;
            have fp3 := blk_frozen BKP.out 3;
            have ca0 : w5.cell? ⟨g3, 0, none⟩ = some (Value.slice Ao l.length co) := (blk_cell BK3.out 0).trans rfl;
            have fa0 := blk_frozen BK3.out 0;
            have ca1 : w5.cell? ⟨g3, 1, none⟩ = some (Value.bool true) := (blk_cell BK3.out 1).trans rfl;
            have fa1 := blk_frozen BK3.out 1;
            have ca2 : w5.cell? ⟨g3, 2, none⟩ = some (Value.int .i64 fu) := (blk_cell BK3.out 2).trans rfl;
            have fa2 := blk_frozen BK3.out 2;
            have ca3 : w5.cell? ⟨g3, 3, none⟩ = some (Value.int .i64 fa) := (blk_cell BK3.out 3).trans rfl;
            have fa3 := blk_frozen BK3.out 3;
            have cb0 : w5.cell? ⟨g6, 0, none⟩ = some (Value.slice none 0 0) := (blk_cell BK6.out 0).trans rfl;
            have fb0 := blk_frozen BK6.out 0;
            have cb1 : w5.cell? ⟨g6, 1, none⟩ = some (Value.bool false) := (blk_cell BK6.out 1).trans rfl;
            have fb1 := blk_frozen BK6.out 1;
            have cb2 : w5.cell? ⟨g6, 2, none⟩ = some (Value.int .i64 0) := (blk_cell BK6.out 2).trans rfl;
            have fb2 := blk_frozen BK6.out 2;
            have cb3 : w5.cell? ⟨g6, 3, none⟩ = some (Value.int .i64 0) := (blk_cell BK6.out 3).trans rfl;
            have fb3 := blk_frozen BK6.out 3)
        | fail)
      refine bodyPost_ret (results_ct rfl _ _ g6 24 #[Value.slice Ao l.length co, Value.bool true, Value.int .i64 fu, Value.int .i64 fa] (0, 0) _ rfl (put4 BK6.out _ _ _ _) Try.underlying24 rfl (by kernel_rfl)) rfl ?_
      rw [HE.out]
      exact ⟨_, rfl, R4 HO.out BK6.out (by decide) _ _ _ _, below4 HB.out G6.out _ _ _ _⟩
    · have hdn2 : dn = false := by simpa using hdn
      subst hdn2
      clear hdn
      have hK := HK.out
      go_wp2_with (first
        | ((with_reducible refine gate_dst (N := 26) rfl ?_);
            refine box_event ?hg (N := 26) ?hd (cs := #[(.slice Ao l.length co), .bool false, .int .i64 fu, .int .i64 fa]) (t := 77) ?hr ?_;
            (case hd => rfl); (case hg => rfl); (case hr => first | (go_simp; done) | (go_simp; rfl));
            intro gp hg w5 hbox hb;
            have m0_ := below_set (g := g3) (j := 0) (v := (.slice Ao l.length co)) HB.out G3.out;
            have m1_ := blk_put (cs' := #[(.slice Ao l.length co), .bool false, .int .i64 fu, .int .i64 fa]) BK3.out 0 (.slice Ao l.length co) rfl;
            have m2_ := blk_far (p := ⟨g3, 0, none⟩) BK6.out (fun e => N36.out e.symm) (.slice Ao l.length co);
            have m3_ := R1 (j := 0) HO.out BK3.out (by decide) (.slice Ao l.length co);
            have n0_ := Aside0.mk (below_step m0_ hb); have n1_ := Aside0.mk (show w.heap.size ≤ gp by rw [hg]; exact m0_.size);
            have n2_ := Aside0.mk (blk_below m1_ hb); have n3_ := Aside0.mk (blk_below m2_ hb); have n4_ := Aside0.mk (Kd.R_below m3_ hb);
            have n5_ := Aside0.mk (show g3 ≠ gp by rw [hg]; exact Nat.ne_of_lt (blk_lt m1_)); have n6_ := Aside0.mk (show g6 ≠ gp by rw [hg]; exact Nat.ne_of_lt (blk_lt m2_));
            clear ca0 fa0 ca1 fa1 ca2 fa2 ca3 fa3; clear HB BK3 BK6 HO m0_ m1_ m2_ m3_; have HB := n0_; have GP := n1_; have BK3 := n2_; have BK6 := n3_; have HO := n4_; have N3P := n5_; have N6P := n6_; have BKP := Aside0.mk hbox;
            clear n0_ n1_ n2_ n3_ n4_ n5_ n6_ hg hbox hb;
            have cp0 : w5.cell? ⟨gp, 0, none⟩ = some (Value.slice Ao l.length co) := (blk_cell BKP.out 0).trans rfl;
            have fp0 := blk_frozen BKP.out 0;
            have cp1 : w5.cell? ⟨gp, 1, none⟩ = some (Value.bool false) := (blk_cell BKP.out 1).trans rfl;
            have fp1 := blk_frozen BKP.out 1;
            have cp2 : w5.cell? ⟨gp, 2, none⟩ = some (Value.int .i64 fu) := (blk_cell BKP.out 2).trans rfl;
            have fp2 := blk_frozen BKP.out 2;
            have cp3 : w5.cell? ⟨gp, 3, none⟩ = some (Value.int .i64 fa) := (blk_cell BKP.out 3).trans rfl;
            have fp3 := blk_frozen BKP.out 3;
            have ca0 : w5.cell? ⟨g3, 0, none⟩ = some (Value.slice Ao l.length co) := (blk_cell BK3.out 0).trans rfl;
            have fa0 := blk_frozen BK3.out 0;
            have ca1 : w5.cell? ⟨g3, 1, none⟩ = some (Value.bool false) := (blk_cell BK3.out 1).trans rfl;
            have fa1 := blk_frozen BK3.out 1;
            have ca2 : w5.cell? ⟨g3, 2, none⟩ = some (Value.int .i64 fu) := (blk_cell BK3.out 2).trans rfl;
            have fa2 := blk_frozen BK3.out 2;
            have ca3 : w5.cell? ⟨g3, 3, none⟩ = some (Value.int .i64 fa) := (blk_cell BK3.out 3).trans rfl;
            have fa3 := blk_frozen BK3.out 3)
        | fail)
      rw [hK _ _, Oper.upon_enter]
      refine ((HOF'.out w5 gp _ HB.out GP.out BKP.out HO.out HOK.out).mono ?_)
      clear hK
      rintro e w6 ⟨rv, dv, rfl, hb, ⟨Kr, cr, rfl, hKr, hrf⟩, ⟨Kd_, cd, rfl, hKd, hdo⟩⟩
      have HKr := Aside0.mk hKr
      have HKd := Aside0.mk hKd
      have Hrf := Aside0.mk hrf
      have Hdo := Aside0.mk hdo
      have n0_ := Aside0.mk (below_step HB.out hb); have n1_ := Aside0.mk (blk_below BK3.out hb); have n2_ := Aside0.mk (blk_below BK6.out hb)
      have n3_ := Aside0.mk (blk_below BKP.out hb); have n4_ := Aside0.mk (Kd.R_below HO.out hb)
      clear HB BK3 BK6 BKP HO hKr hKd hrf hdo; clear ca0 fa0 ca1 fa1 ca2 fa2 ca3 fa3; clear cp0 fp0 cp1 fp1 cp2 fp2 cp3 fp3; have HB := n0_; have BK3 := n1_; have BK6 := n2_; have BKP := n3_; have HO := n4_; clear n0_ n1_ n2_ n3_ n4_ hb
      go_wp2_with (first
        | ((with_reducible refine gate_dst (N := 10) rfl ?_);
            refine box_event ?hg (N := 10) ?hd (cs := #[.nilFunc, .nilFunc, .bool false]) (t := 63) ?hr ?_;
            (case hd => rfl); (case hg => rfl); (case hr => first | (go_simp; done) | (go_simp; rfl));
            intro gc hg w7 hbox hb;
            have n0_ := Aside0.mk (below_step HB.out hb); have n1_ := Aside0.mk (show w.heap.size ≤ gc by rw [hg]; exact HB.out.size);
            have n2_ := Aside0.mk (blk_below BK3.out hb); have n3_ := Aside0.mk (blk_below BK6.out hb); have n4_ := Aside0.mk (blk_below BKP.out hb); have n5_ := Aside0.mk (Kd.R_below HO.out hb);
            have n6_ := Aside0.mk (show g3 ≠ gc by rw [hg]; exact Nat.ne_of_lt (blk_lt BK3.out)); have n7_ := Aside0.mk (show g6 ≠ gc by rw [hg]; exact Nat.ne_of_lt (blk_lt BK6.out)); have n8_ := Aside0.mk (show gp ≠ gc by rw [hg]; exact Nat.ne_of_lt (blk_lt BKP.out));
            have n9_ := Aside0.mk (show w6.heap.size ≤ gc by rw [hg]; exact Nat.le_refl _);
            have H6 := Aside0.mk hb;
            clear HB BK3 BK6 BKP HO; have HB := n0_; have GC := n1_; have BK3 := n2_; have BK6 := n3_; have BKP := n4_; have HO := n5_; have N3C := n6_; have N6C := n7_; have NPC := n8_; have GC6 := n9_; have BKC := Aside0.mk hbox;
            clear n0_ n1_ n2_ n3_ n4_ n5_ n6_ n7_ n8_ n9_ hg hbox hb;
            have hq1 : g3 ≠ gc := N3C.out; have hq2 : gc ≠ g3 := fun e => N3C.out e.symm;
            have ca0 : w7.cell? ⟨g3, 0, none⟩ = some (Value.slice Ao l.length co) := (blk_cell BK3.out 0).trans rfl;
            have fa0 := blk_frozen BK3.out 0;
            have ca1 : w7.cell? ⟨g3, 1, none⟩ = some (Value.bool false) := (blk_cell BK3.out 1).trans rfl;
            have fa1 := blk_frozen BK3.out 1;
            have ca2 : w7.cell? ⟨g3, 2, none⟩ = some (Value.int .i64 fu) := (blk_cell BK3.out 2).trans rfl;
            have fa2 := blk_frozen BK3.out 2;
            have ca3 : w7.cell? ⟨g3, 3, none⟩ = some (Value.int .i64 fa) := (blk_cell BK3.out 3).trans rfl;
            have fa3 := blk_frozen BK3.out 3;
            have cc0 : w7.cell? ⟨gc, 0, none⟩ = some (Value.nilFunc) := (blk_cell BKC.out 0).trans rfl;
            have fc0 := blk_frozen BKC.out 0;
            have cc1 : w7.cell? ⟨gc, 1, none⟩ = some (Value.nilFunc) := (blk_cell BKC.out 1).trans rfl;
            have fc1 := blk_frozen BKC.out 1;
            have cc2 : w7.cell? ⟨gc, 2, none⟩ = some (Value.bool false) := (blk_cell BKC.out 2).trans rfl;
            have fc2 := blk_frozen BKC.out 2)
        | fail)
      clear hq1 hq2
      have k0 := below3 HB.out GC.out (.func (.func Kr) #[] cr) (.func (.func Kd_) #[] cd) (.bool wr)
      have k1 := far3 BK3.out N3C.out (.func (.func Kr) #[] cr) (.func (.func Kd_) #[] cd) (.bool wr)
      have k2 := far3 BK6.out N6C.out (.func (.func Kr) #[] cr) (.func (.func Kd_) #[] cd) (.bool wr)
      have k3 := far3 BKP.out NPC.out (.func (.func Kr) #[] cr) (.func (.func Kd_) #[] cd) (.bool wr)
      have k4 := put3 BKC.out (.func (.func Kr) #[] cr) (.func (.func Kd_) #[] cd) (.bool wr)
      have k5 := R3 HO.out BKC.out (by decide) (.func (.func Kr) #[] cr) (.func (.func Kd_) #[] cd) (.bool wr)
      have k6 := below3 H6.out GC6.out (.func (.func Kr) #[] cr) (.func (.func Kd_) #[] cd) (.bool wr)
      have k7 := (Kd.R_reads k5)
      obtain ⟨A7, c7, he7, hl7, hr7⟩ := k7
      obtain ⟨rfl, rfl⟩ : A7 = Ao ∧ c7 = co := by injection he7 with e1 _ e2; exact ⟨e1.symm, e2.symm⟩
      clear he7
      refine ((disk_place.calls A7 c7 l false fu fa name _ _ _ hr7 hl7 (by rw [disk_place.f, if_pos hle])).mono ?_)
      rintro e w9 ⟨rfl, hb⟩
      obtain ⟨i, hi⟩ : ∃ i, i = bsOf l name := ⟨_, rfl⟩
      rw [← hi]
      obtain ⟨b, hbe⟩ : ∃ b, b = isAt l name i := ⟨_, rfl⟩
      rw [← hbe]
      have HI := Aside0.mk hi
      have HBE := Aside0.mk hbe
      have hil : i ≤ l.length := by rw [hi]; exact (bsGo_le l name _ _ _ (Nat.zero_le _)).2
      have hib : Aside0 (b = true → i < l.length) := ⟨fun h => by
        rw [hbe, isAt, Bool.and_eq_true, decide_eq_true_eq] at h
        exact h.1⟩
      clear hi hbe hl7 hr7
      have n0_ := Aside0.mk (below_step k0 hb); have n1_ := Aside0.mk (blk_below k1 hb); have n2_ := Aside0.mk (blk_below k2 hb); have n3_ := Aside0.mk (blk_below k3 hb); have n4_ := Aside0.mk (blk_below k4 hb); have n5_ := Aside0.mk (Kd.R_below k5 hb); have n6_ := Aside0.mk (below_step k6 hb)
      clear HB BK3 BK6 BKP BKC HO H6 k0 k1 k2 k3 k4 k5 k6; clear ca0 fa0 ca1 fa1 ca2 fa2 ca3 fa3; clear cc0 fc0 cc1 fc1 cc2 fc2; have HB := n0_; have BK3 := n1_; have BK6 := n2_; have BKP := n3_; have BKC := n4_; have HO := n5_; have H6 := n6_; clear n0_ n1_ n2_ n3_ n4_ n5_ n6_ hb
      have cc0 : w9.cell? ⟨gc, 0, none⟩ = some (Value.func (.func Kr) #[] cr) := (blk_cell BKC.out 0).trans rfl
      have fc0 := blk_frozen BKC.out 0
      have cc1 : w9.cell? ⟨gc, 1, none⟩ = some (Value.func (.func Kd_) #[] cd) := (blk_cell BKC.out 1).trans rfl
      have fc1 := blk_frozen BKC.out 1
      have cc2 : w9.cell? ⟨gc, 2, none⟩ = some (Value.bool wr) := (blk_cell BKC.out 2).trans rfl
      have fc2 := blk_frozen BKC.out 2
      have hKr := HKr.out
      go_wp2_with fail
      rw [hKr _ _, Oper.upon_enter]
      clear hKr
      refine ((Hrf.out w9 i b (KeepT.of_below H6.out) hil hib.out).mono ?_)
      rintro e w10 ⟨rfl, hb⟩
      obtain ⟨r, hr⟩ : ∃ r, r = rf (i : Int) b := ⟨_, rfl⟩
      rw [← hr]
      have HRF := Aside0.mk hr
      clear hr
      have n0_ := Aside0.mk (below_step HB.out hb); have n1_ := Aside0.mk (blk_below BK3.out hb); have n2_ := Aside0.mk (blk_below BK6.out hb); have n3_ := Aside0.mk (blk_below BKP.out hb); have n4_ := Aside0.mk (blk_below BKC.out hb); have n5_ := Aside0.mk (Kd.R_below HO.out hb); have n6_ := Aside0.mk (below_step H6.out hb)
      clear HB BK3 BK6 BKP BKC HO H6; clear cc0 fc0 cc1 fc1 cc2 fc2; have HB := n0_; have BK3 := n1_; have BK6 := n2_; have BKP := n3_; have BKC := n4_; have HO := n5_; have H6 := n6_; clear n0_ n1_ n2_ n3_ n4_ n5_ n6_ hb
      have ca0 : w10.cell? ⟨g3, 0, none⟩ = some (Value.slice A7 l.length c7) := (blk_cell BK3.out 0).trans rfl
      have fa0 := blk_frozen BK3.out 0
      have ca1 : w10.cell? ⟨g3, 1, none⟩ = some (Value.bool false) := (blk_cell BK3.out 1).trans rfl
      have fa1 := blk_frozen BK3.out 1
      have ca2 : w10.cell? ⟨g3, 2, none⟩ = some (Value.int .i64 fu) := (blk_cell BK3.out 2).trans rfl
      have fa2 := blk_frozen BK3.out 2
      have ca3 : w10.cell? ⟨g3, 3, none⟩ = some (Value.int .i64 fa) := (blk_cell BK3.out 3).trans rfl
      have fa3 := blk_frozen BK3.out 3
      have cb0 : w10.cell? ⟨g6, 0, none⟩ = some (Value.slice none 0 0) := (blk_cell BK6.out 0).trans rfl
      have fb0 := blk_frozen BK6.out 0
      have cb1 : w10.cell? ⟨g6, 1, none⟩ = some (Value.bool false) := (blk_cell BK6.out 1).trans rfl
      have fb1 := blk_frozen BK6.out 1
      have cb2 : w10.cell? ⟨g6, 2, none⟩ = some (Value.int .i64 0) := (blk_cell BK6.out 2).trans rfl
      have fb2 := blk_frozen BK6.out 2
      have cb3 : w10.cell? ⟨g6, 3, none⟩ = some (Value.int .i64 0) := (blk_cell BK6.out 3).trans rfl
      have fb3 := blk_frozen BK6.out 3
      have cp0 : w10.cell? ⟨gp, 0, none⟩ = some (Value.slice A7 l.length c7) := (blk_cell BKP.out 0).trans rfl
      have fp0 := blk_frozen BKP.out 0
      have cp1 : w10.cell? ⟨gp, 1, none⟩ = some (Value.bool false) := (blk_cell BKP.out 1).trans rfl
      have fp1 := blk_frozen BKP.out 1
      have cp2 : w10.cell? ⟨gp, 2, none⟩ = some (Value.int .i64 fu) := (blk_cell BKP.out 2).trans rfl
      have fp2 := blk_frozen BKP.out 2
      have cp3 : w10.cell? ⟨gp, 3, none⟩ = some (Value.int .i64 fa) := (blk_cell BKP.out 3).trans rfl
      have fp3 := blk_frozen BKP.out 3
      have cc0 : w10.cell? ⟨gc, 0, none⟩ = some (Value.func (.func Kr) #[] cr) := (blk_cell BKC.out 0).trans rfl
      have fc0 := blk_frozen BKC.out 0
      have cc1 : w10.cell? ⟨gc, 1, none⟩ = some (Value.func (.func Kd_) #[] cd) := (blk_cell BKC.out 1).trans rfl
      have fc1 := blk_frozen BKC.out 1
      have cc2 : w10.cell? ⟨gc, 2, none⟩ = some (Value.bool wr) := (blk_cell BKC.out 2).trans rfl
      have fc2 := blk_frozen BKC.out 2
      by_cases hr0 : r = 0
      · subst hr0
        have q1 : g3 ≠ gp := N3P.out
        have q2 : gp ≠ g3 := fun e => N3P.out e.symm
        have q3 : g6 ≠ gp := N6P.out
        have q4 : gp ≠ g6 := fun e => N6P.out e.symm
        have q5 : gp ≠ gc := NPC.out
        have q6 : gc ≠ gp := fun e => NPC.out e.symm
        by_cases hf0 : fa = 0
        · have hf1 : (fa == 0) = true := by simpa using hf0
          have HE : Aside0 (R = (l, false, fu, -1, 18)) := ⟨by rw [HRR.out, changedF, if_pos HOK.out, if_neg (by decide), ← HI.out, ← HBE.out, ← HRF.out, if_pos rfl, if_pos hf0]⟩
          go_wp2
          refine bodyPost_ret (results_ct rfl _ _ g6 24 #[Value.slice A7 l.length c7, Value.bool false, Value.int .i64 fu, Value.int .i64 (-1)] (0, 0) _ rfl (put4 (blk_far (p := ⟨gp, 3, none⟩) BK6.out N6P.out (Value.int .i64 (-1))) _ _ _ _) Try.underlying24 rfl (by kernel_rfl)) rfl ?_
          rw [HE.out]
          exact ⟨_, rfl, R4 (R1 (j := 3) HO.out BKP.out (by decide) (Value.int .i64 (-1))) (blk_far (p := ⟨gp, 3, none⟩) BK6.out N6P.out (Value.int .i64 (-1))) (by decide) _ _ _ _, below4 (below_set (j := 3) (v := Value.int .i64 (-1)) HB.out GP.out) G6.out _ _ _ _⟩
        · have hf1 : (fa == 0) = false := by simpa using hf0
          by_cases hfp : 0 < fa
          · have hfd : decide (0 < fa) = true := by simpa using hfp
            by_cases hu0 : fu = 0
            · have hu1 : (fu == 0) = true := by simpa using hu0
              have HU0 := Aside0.mk hu0
              clear hu0
              cases wr with
              | true =>
                have HE : Aside0 (R = (df (i : Int), true, fu, wrap64 (fa - 1), 17)) := ⟨by rw [HRR.out, changedF, if_pos HOK.out, if_neg (by decide), ← HI.out, ← HBE.out, ← HRF.out, if_pos rfl, if_neg hf0, if_pos HU0.out, if_pos rfl, if_pos hfp]⟩
                have hKd := HKd.out
                go_wp2_with fail
                rw [hKd _ _, Oper.upon_enter]
                clear hKd
                have k0 := (blk_far (p := ⟨gp, 1, none⟩) (blk_far (p := ⟨gp, 3, none⟩) BK6.out N6P.out (Value.int .i64 (wrap64 (fa - 1)))) N6P.out (Value.bool true))
                have k1 := (below_set (j := 1) (v := Value.bool true) (below_set (j := 3) (v := Value.int .i64 (wrap64 (fa - 1))) HB.out GP.out) GP.out)
                refine ((Hdo.out ((w10.setCell ⟨gp, 3, none⟩ (Value.int .i64 (wrap64 (fa - 1)))).setCell ⟨gp, 1, none⟩ (Value.bool true)) i b _ _ _ (KeepT.of_keep (KeepBut.set_ (KeepBut.set_ (KeepBut.of_below H6.out gp none) 3 (Value.int .i64 (wrap64 (fa - 1)))) 1 (Value.bool true))) hil hib.out HRF.out.symm (blk_put (cs' := #[Value.slice A7 l.length c7, Value.bool true, Value.int .i64 fu, Value.int .i64 (wrap64 (fa - 1))]) (blk_put (cs' := #[Value.slice A7 l.length c7, Value.bool false, Value.int .i64 fu, Value.int .i64 (wrap64 (fa - 1))]) BKP.out 3 (Value.int .i64 (wrap64 (fa - 1))) rfl) 1 (Value.bool true) rfl) (R1 (j := 1) (R1 (j := 3) HO.out BKP.out (by decide) (Value.int .i64 (wrap64 (fa - 1)))) (blk_put (cs' := #[Value.slice A7 l.length c7, Value.bool false, Value.int .i64 fu, Value.int .i64 (wrap64 (fa - 1))]) BKP.out 3 (Value.int .i64 (wrap64 (fa - 1))) rfl) (by decide) (Value.bool true))).mono ?_)
                rintro e w12 ⟨rfl, v', hp', ho', hb', h24⟩
                obtain ⟨A8, c8, e8⟩ := Kd.R_slice ho'
                subst e8
                have n0_ := Aside0.mk (k1.trans hb'); have n1_ := Aside0.mk (h24 g6 _ k0); have n2_ := Aside0.mk hp'; have n3_ := Aside0.mk ho'
                clear BK3 BKP BKC BK6 HB HO H6 k0 k1 hp' ho' hb' h24; clear ca0 fa0 ca1 fa1 ca2 fa2 ca3 fa3; clear cb0 fb0 cb1 fb1 cb2 fb2 cb3 fb3; clear cp0 fp0 cp1 fp1 cp2 fp2 cp3 fp3; clear cc0 fc0 cc1 fc1 cc2 fc2
                have HB := n0_; have BK6 := n1_; have BKP := n2_; have HO := n3_; clear n0_ n1_ n2_ n3_
                have cp0 : w12.cell? ⟨gp, 0, none⟩ = some (Value.slice A8 (df (i : Int)).length c8) := (blk_cell BKP.out 0).trans rfl
                have fp0 := blk_frozen BKP.out 0
                have cp1 : w12.cell? ⟨gp, 1, none⟩ = some (Value.bool true) := (blk_cell BKP.out 1).trans rfl
                have fp1 := blk_frozen BKP.out 1
                have cp2 : w12.cell? ⟨gp, 2, none⟩ = some (Value.int .i64 fu) := (blk_cell BKP.out 2).trans rfl
                have fp2 := blk_frozen BKP.out 2
                have cp3 : w12.cell? ⟨gp, 3, none⟩ = some (Value.int .i64 (wrap64 (fa - 1))) := (blk_cell BKP.out 3).trans rfl
                have fp3 := blk_frozen BKP.out 3
                have cb0 : w12.cell? ⟨g6, 0, none⟩ = some (Value.slice none 0 0) := (blk_cell BK6.out 0).trans rfl
                have fb0 := blk_frozen BK6.out 0
                have cb1 : w12.cell? ⟨g6, 1, none⟩ = some (Value.bool false) := (blk_cell BK6.out 1).trans rfl
                have fb1 := blk_frozen BK6.out 1
                have cb2 : w12.cell? ⟨g6, 2, none⟩ = some (Value.int .i64 0) := (blk_cell BK6.out 2).trans rfl
                have fb2 := blk_frozen BK6.out 2
                have cb3 : w12.cell? ⟨g6, 3, none⟩ = some (Value.int .i64 0) := (blk_cell BK6.out 3).trans rfl
                have fb3 := blk_frozen BK6.out 3
                go_wp2
                refine bodyPost_ret (results_ct rfl _ _ g6 24 #[Value.slice A8 (df (i : Int)).length c8, Value.bool true, Value.int .i64 fu, Value.int .i64 (wrap64 (fa - 1))] (0, 0) _ rfl (put4 BK6.out _ _ _ _) Try.underlying24 rfl (by kernel_rfl)) rfl ?_
                rw [HE.out]
                exact ⟨_, rfl, R4 HO.out BK6.out (by decide) _ _ _ _, below4 HB.out G6.out _ _ _ _⟩
              | false =>
                have HE : Aside0 (R = (l, true, fu, wrap64 (fa - 1), 17)) := ⟨by rw [HRR.out, changedF, if_pos HOK.out, if_neg (by decide), ← HI.out, ← HBE.out, ← HRF.out, if_pos rfl, if_neg hf0, if_pos HU0.out, if_neg (by decide), if_pos hfp]⟩
                go_wp2
                refine bodyPost_ret (results_ct rfl _ _ g6 24 #[Value.slice A7 l.length c7, Value.bool true, Value.int .i64 fu, Value.int .i64 (wrap64 (fa - 1))] (0, 0) _ rfl (put4 (blk_far (p := ⟨gp, 1, none⟩) (blk_far (p := ⟨gp, 3, none⟩) BK6.out N6P.out (Value.int .i64 (wrap64 (fa - 1)))) N6P.out (Value.bool true)) _ _ _ _) Try.underlying24 rfl (by kernel_rfl)) rfl ?_
                rw [HE.out]
                exact ⟨_, rfl, R4 (R1 (j := 1) (R1 (j := 3) HO.out BKP.out (by decide) (Value.int .i64 (wrap64 (fa - 1)))) (blk_put (cs' := #[Value.slice A7 l.length c7, Value.bool false, Value.int .i64 fu, Value.int .i64 (wrap64 (fa - 1))]) BKP.out 3 (Value.int .i64 (wrap64 (fa - 1))) rfl) (by decide) (Value.bool true)) (blk_far (p := ⟨gp, 1, none⟩) (blk_far (p := ⟨gp, 3, none⟩) BK6.out N6P.out (Value.int .i64 (wrap64 (fa - 1)))) N6P.out (Value.bool true)) (by decide) _ _ _ _, below4 (below_set (j := 1) (v := Value.bool true) (below_set (j := 3) (v := Value.int .i64 (wrap64 (fa - 1))) HB.out GP.out) GP.out) G6.out _ _ _ _⟩
            · have hu1 : (fu == 0) = false := by simpa using hu0
              by_cases hup : 0 < fu
              · have hud : decide (0 < fu) = true := by simpa using hup
                have HE : Aside0 (R = (df (i : Int), false, wrap64 (fu - 1), wrap64 (fa - 1), 0)) := ⟨by rw [HRR.out, changedF, if_pos HOK.out, if_neg (by decide), ← HI.out, ← HBE.out, ← HRF.out, if_pos rfl, if_neg hf0, if_neg hu0, if_pos hup, if_pos hfp]⟩
                have hKd := HKd.out
                go_wp2_with fail
                rw [hKd _ _, Oper.upon_enter]
                clear hKd
                have k0 := (blk_far (p := ⟨gp, 2, none⟩) (blk_far (p := ⟨gp, 3, none⟩) BK6.out N6P.out (Value.int .i64 (wrap64 (fa - 1)))) N6P.out (Value.int .i64 (wrap64 (fu - 1))))
                have k1 := (below_set (j := 2) (v := Value.int .i64 (wrap64 (fu - 1))) (below_set (j := 3) (v := Value.int .i64 (wrap64 (fa - 1))) HB.out GP.out) GP.out)
                refine ((Hdo.out ((w10.setCell ⟨gp, 3, none⟩ (Value.int .i64 (wrap64 (fa - 1)))).setCell ⟨gp, 2, none⟩ (Value.int .i64 (wrap64 (fu - 1)))) i b _ _ _ (KeepT.of_keep (KeepBut.set_ (KeepBut.set_ (KeepBut.of_below H6.out gp none) 3 (Value.int .i64 (wrap64 (fa - 1)))) 2 (Value.int .i64 (wrap64 (fu - 1))))) hil hib.out HRF.out.symm (blk_put (cs' := #[Value.slice A7 l.length c7, Value.bool false, Value.int .i64 (wrap64 (fu - 1)), Value.int .i64 (wrap64 (fa - 1))]) (blk_put (cs' := #[Value.slice A7 l.length c7, Value.bool false, Value.int .i64 fu, Value.int .i64 (wrap64 (fa - 1))]) BKP.out 3 (Value.int .i64 (wrap64 (fa - 1))) rfl) 2 (Value.int .i64 (wrap64 (fu - 1))) rfl) (R1 (j := 2) (R1 (j := 3) HO.out BKP.out (by decide) (Value.int .i64 (wrap64 (fa - 1)))) (blk_put (cs' := #[Value.slice A7 l.length c7, Value.bool false, Value.int .i64 fu, Value.int .i64 (wrap64 (fa - 1))]) BKP.out 3 (Value.int .i64 (wrap64 (fa - 1))) rfl) (by decide) (Value.int .i64 (wrap64 (fu - 1))))).mono ?_)
                rintro e w12 ⟨rfl, v', hp', ho', hb', h24⟩
                obtain ⟨A8, c8, e8⟩ := Kd.R_slice ho'
                subst e8
                have n0_ := Aside0.mk (k1.trans hb'); have n1_ := Aside0.mk (h24 g6 _ k0); have n2_ := Aside0.mk hp'; have n3_ := Aside0.mk ho'
                clear BK3 BKP BKC BK6 HB HO H6 k0 k1 hp' ho' hb' h24; clear ca0 fa0 ca1 fa1 ca2 fa2 ca3 fa3; clear cb0 fb0 cb1 fb1 cb2 fb2 cb3 fb3; clear cp0 fp0 cp1 fp1 cp2 fp2 cp3 fp3; clear cc0 fc0 cc1 fc1 cc2 fc2
                have HB := n0_; have BK6 := n1_; have BKP := n2_; have HO := n3_; clear n0_ n1_ n2_ n3_
                have cp0 : w12.cell? ⟨gp, 0, none⟩ = some (Value.slice A8 (df (i : Int)).length c8) := (blk_cell BKP.out 0).trans rfl
                have fp0 := blk_frozen BKP.out 0
                have cp1 : w12.cell? ⟨gp, 1, none⟩ = some (Value.bool false) := (blk_cell BKP.out 1).trans rfl
                have fp1 := blk_frozen BKP.out 1
                have cp2 : w12.cell? ⟨gp, 2, none⟩ = some (Value.int .i64 (wrap64 (fu - 1))) := (blk_cell BKP.out 2).trans rfl
                have fp2 := blk_frozen BKP.out 2
                have cp3 : w12.cell? ⟨gp, 3, none⟩ = some (Value.int .i64 (wrap64 (fa - 1))) := (blk_cell BKP.out 3).trans rfl
                have fp3 := blk_frozen BKP.out 3
                have cb0 : w12.cell? ⟨g6, 0, none⟩ = some (Value.slice none 0 0) := (blk_cell BK6.out 0).trans rfl
                have fb0 := blk_frozen BK6.out 0
                have cb1 : w12.cell? ⟨g6, 1, none⟩ = some (Value.bool false) := (blk_cell BK6.out 1).trans rfl
                have fb1 := blk_frozen BK6.out 1
                have cb2 : w12.cell? ⟨g6, 2, none⟩ = some (Value.int .i64 0) := (blk_cell BK6.out 2).trans rfl
                have fb2 := blk_frozen BK6.out 2
                have cb3 : w12.cell? ⟨g6, 3, none⟩ = some (Value.int .i64 0) := (blk_cell BK6.out 3).trans rfl
                have fb3 := blk_frozen BK6.out 3
                go_wp2
                refine bodyPost_ret (results_ct rfl _ _ g6 24 #[Value.slice A8 (df (i : Int)).length c8, Value.bool false, Value.int .i64 (wrap64 (fu - 1)), Value.int .i64 (wrap64 (fa - 1))] (0, 0) _ rfl (put4 BK6.out _ _ _ _) Try.underlying24 rfl (by kernel_rfl)) rfl ?_
                rw [HE.out]
                exact ⟨_, rfl, R4 HO.out BK6.out (by decide) _ _ _ _, below4 HB.out G6.out _ _ _ _⟩
              · have hud : decide (0 < fu) = false := by simpa using hup
                have HE : Aside0 (R = (df (i : Int), false, fu, wrap64 (fa - 1), 0)) := ⟨by rw [HRR.out, changedF, if_pos HOK.out, if_neg (by decide), ← HI.out, ← HBE.out, ← HRF.out, if_pos rfl, if_neg hf0, if_neg hu0, if_neg hup, if_pos hfp]⟩
                have hKd := HKd.out
                go_wp2_with fail
                rw [hKd _ _, Oper.upon_enter]
                clear hKd
                have k0 := (blk_far (p := ⟨gp, 3, none⟩) BK6.out N6P.out (Value.int .i64 (wrap64 (fa - 1))))
                have k1 := (below_set (j := 3) (v := Value.int .i64 (wrap64 (fa - 1))) HB.out GP.out)
                refine ((Hdo.out (w10.setCell ⟨gp, 3, none⟩ (Value.int .i64 (wrap64 (fa - 1)))) i b _ _ _ (KeepT.of_keep (KeepBut.set_ (KeepBut.of_below H6.out gp none) 3 (Value.int .i64 (wrap64 (fa - 1))))) hil hib.out HRF.out.symm (blk_put (cs' := #[Value.slice A7 l.length c7, Value.bool false, Value.int .i64 fu, Value.int .i64 (wrap64 (fa - 1))]) BKP.out 3 (Value.int .i64 (wrap64 (fa - 1))) rfl) (R1 (j := 3) HO.out BKP.out (by decide) (Value.int .i64 (wrap64 (fa - 1))))).mono ?_)
                rintro e w12 ⟨rfl, v', hp', ho', hb', h24⟩
                obtain ⟨A8, c8, e8⟩ := Kd.R_slice ho'
                subst e8
                have n0_ := Aside0.mk (k1.trans hb'); have n1_ := Aside0.mk (h24 g6 _ k0); have n2_ := Aside0.mk hp'; have n3_ := Aside0.mk ho'
                clear BK3 BKP BKC BK6 HB HO H6 k0 k1 hp' ho' hb' h24; clear ca0 fa0 ca1 fa1 ca2 fa2 ca3 fa3; clear cb0 fb0 cb1 fb1 cb2 fb2 cb3 fb3; clear cp0 fp0 cp1 fp1 cp2 fp2 cp3 fp3; clear cc0 fc0 cc1 fc1 cc2 fc2
                have HB := n0_; have BK6 := n1_; have BKP := n2_; have HO := n3_; clear n0_ n1_ n2_ n3_
                have cp0 : w12.cell? ⟨gp, 0, none⟩ = some (Value.slice A8 (df (i : Int)).length c8) := (blk_cell BKP.out 0).trans rfl
                have fp0 := blk_frozen BKP.out 0
                have cp1 : w12.cell? ⟨gp, 1, none⟩ = some (Value.bool false) := (blk_cell BKP.out 1).trans rfl
                have fp1 := blk_frozen BKP.out 1
                have cp2 : w12.cell? ⟨gp, 2, none⟩ = some (Value.int .i64 fu) := (blk_cell BKP.out 2).trans rfl
                have fp2 := blk_frozen BKP.out 2
                have cp3 : w12.cell? ⟨gp, 3, none⟩ = some (Value.int .i64 (wrap64 (fa - 1))) := (blk_cell BKP.out 3).trans rfl
                have fp3 := blk_frozen BKP.out 3
                have cb0 : w12.cell? ⟨g6, 0, none⟩ = some (Value.slice none 0 0) := (blk_cell BK6.out 0).trans rfl
                have fb0 := blk_frozen BK6.out 0
                have cb1 : w12.cell? ⟨g6, 1, none⟩ = some (Value.bool false) := (blk_cell BK6.out 1).trans rfl
                have fb1 := blk_frozen BK6.out 1
                have cb2 : w12.cell? ⟨g6, 2, none⟩ = some (Value.int .i64 0) := (blk_cell BK6.out 2).trans rfl
                have fb2 := blk_frozen BK6.out 2
                have cb3 : w12.cell? ⟨g6, 3, none⟩ = some (Value.int .i64 0) := (blk_cell BK6.out 3).trans rfl
                have fb3 := blk_frozen BK6.out 3
                go_wp2
                refine bodyPost_ret (results_ct rfl _ _ g6 24 #[Value.slice A8 (df (i : Int)).length c8, Value.bool false, Value.int .i64 fu, Value.int .i64 (wrap64 (fa - 1))] (0, 0) _ rfl (put4 BK6.out _ _ _ _) Try.underlying24 rfl (by kernel_rfl)) rfl ?_
                rw [HE.out]
                exact ⟨_, rfl, R4 HO.out BK6.out (by decide) _ _ _ _, below4 HB.out G6.out _ _ _ _⟩
          · have hfd : decide (0 < fa) = false := by simpa using hfp
            by_cases hu0 : fu = 0
            · have hu1 : (fu == 0) = true := by simpa using hu0
              have HU0 := Aside0.mk hu0
              clear hu0
              cases wr with
              | true =>
                have HE : Aside0 (R = (df (i : Int), true, fu, fa, 17)) := ⟨by rw [HRR.out, changedF, if_pos HOK.out, if_neg (by decide), ← HI.out, ← HBE.out, ← HRF.out, if_pos rfl, if_neg hf0, if_pos HU0.out, if_pos rfl, if_neg hfp]⟩
                have hKd := HKd.out
                go_wp2_with fail
                rw [hKd _ _, Oper.upon_enter]
                clear hKd
                have k0 := (blk_far (p := ⟨gp, 1, none⟩) BK6.out N6P.out (Value.bool true))
                have k1 := (below_set (j := 1) (v := Value.bool true) HB.out GP.out)
                refine ((Hdo.out (w10.setCell ⟨gp, 1, none⟩ (Value.bool true)) i b _ _ _ (KeepT.of_keep (KeepBut.set_ (KeepBut.of_below H6.out gp none) 1 (Value.bool true))) hil hib.out HRF.out.symm (blk_put (cs' := #[Value.slice A7 l.length c7, Value.bool true, Value.int .i64 fu, Value.int .i64 fa]) BKP.out 1 (Value.bool true) rfl) (R1 (j := 1) HO.out BKP.out (by decide) (Value.bool true))).mono ?_)
                rintro e w12 ⟨rfl, v', hp', ho', hb', h24⟩
                obtain ⟨A8, c8, e8⟩ := Kd.R_slice ho'
                subst e8
                have n0_ := Aside0.mk (k1.trans hb'); have n1_ := Aside0.mk (h24 g6 _ k0); have n2_ := Aside0.mk hp'; have n3_ := Aside0.mk ho'
                clear BK3 BKP BKC BK6 HB HO H6 k0 k1 hp' ho' hb' h24; clear ca0 fa0 ca1 fa1 ca2 fa2 ca3 fa3; clear cb0 fb0 cb1 fb1 cb2 fb2 cb3 fb3; clear cp0 fp0 cp1 fp1 cp2 fp2 cp3 fp3; clear cc0 fc0 cc1 fc1 cc2 fc2
                have HB := n0_; have BK6 := n1_; have BKP := n2_; have HO := n3_; clear n0_ n1_ n2_ n3_
                have cp0 : w12.cell? ⟨gp, 0, none⟩ = some (Value.slice A8 (df (i : Int)).length c8) := (blk_cell BKP.out 0).trans rfl
                have fp0 := blk_frozen BKP.out 0
                have cp1 : w12.cell? ⟨gp, 1, none⟩ = some (Value.bool true) := (blk_cell BKP.out 1).trans rfl
                have fp1 := blk_frozen BKP.out 1
                have cp2 : w12.cell? ⟨gp, 2, none⟩ = some (Value.int .i64 fu) := (blk_cell BKP.out 2).trans rfl
                have fp2 := blk_frozen BKP.out 2
                have cp3 : w12.cell? ⟨gp, 3, none⟩ = some (Value.int .i64 fa) := (blk_cell BKP.out 3).trans rfl
                have fp3 := blk_frozen BKP.out 3
                have cb0 : w12.cell? ⟨g6, 0, none⟩ = some (Value.slice none 0 0) := (blk_cell BK6.out 0).trans rfl
                have fb0 := blk_frozen BK6.out 0
                have cb1 : w12.cell? ⟨g6, 1, none⟩ = some (Value.bool false) := (blk_cell BK6.out 1).trans rfl
                have fb1 := blk_frozen BK6.out 1
                have cb2 : w12.cell? ⟨g6, 2, none⟩ = some (Value.int .i64 0) := (blk_cell BK6.out 2).trans rfl
                have fb2 := blk_frozen BK6.out 2
                have cb3 : w12.cell? ⟨g6, 3, none⟩ = some (Value.int .i64 0) := (blk_cell BK6.out 3).trans rfl
                have fb3 := blk_frozen BK6.out 3
                go_wp2
                refine bodyPost_ret (results_ct rfl _ _ g6 24 #[Value.slice A8 (df (i : Int)).length c8, Value.bool true, Value.int .i64 fu, Value.int .i64 fa] (0, 0) _ rfl (put4 BK6.out _ _ _ _) Try.underlying24 rfl (by kernel_rfl)) rfl ?_
                rw [HE.out]
                exact ⟨_, rfl, R4 HO.out BK6.out (by decide) _ _ _ _, below4 HB.out G6.out _ _ _ _⟩
              | false =>
                have HE : Aside0 (R = (l, true, fu, fa, 17)) := ⟨by rw [HRR.out, changedF, if_pos HOK.out, if_neg (by decide), ← HI.out, ← HBE.out, ← HRF.out, if_pos rfl, if_neg hf0, if_pos HU0.out, if_neg (by decide), if_neg hfp]⟩
                go_wp2
                refine bodyPost_ret (results_ct rfl _ _ g6 24 #[Value.slice A7 l.length c7, Value.bool true, Value.int .i64 fu, Value.int .i64 fa] (0, 0) _ rfl (put4 (blk_far (p := ⟨gp, 1, none⟩) BK6.out N6P.out (Value.bool true)) _ _ _ _) Try.underlying24 rfl (by kernel_rfl)) rfl ?_
                rw [HE.out]
                exact ⟨_, rfl, R4 (R1 (j := 1) HO.out BKP.out (by decide) (Value.bool true)) (blk_far (p := ⟨gp, 1, none⟩) BK6.out N6P.out (Value.bool true)) (by decide) _ _ _ _, below4 (below_set (j := 1) (v := Value.bool true) HB.out GP.out) G6.out _ _ _ _⟩
            · have hu1 : (fu == 0) = false := by simpa using hu0
              by_cases hup : 0 < fu
              · have hud : decide (0 < fu) = true := by simpa using hup
                have HE : Aside0 (R = (df (i : Int), false, wrap64 (fu - 1), fa, 0)) := ⟨by rw [HRR.out, changedF, if_pos HOK.out, if_neg (by decide), ← HI.out, ← HBE.out, ← HRF.out, if_pos rfl, if_neg hf0, if_neg hu0, if_pos hup, if_neg hfp]⟩
                have hKd := HKd.out
                go_wp2_with fail
                rw [hKd _ _, Oper.upon_enter]
                clear hKd
                have k0 := (blk_far (p := ⟨gp, 2, none⟩) BK6.out N6P.out (Value.int .i64 (wrap64 (fu - 1))))
                have k1 := (below_set (j := 2) (v := Value.int .i64 (wrap64 (fu - 1))) HB.out GP.out)
                refine ((Hdo.out (w10.setCell ⟨gp, 2, none⟩ (Value.int .i64 (wrap64 (fu - 1)))) i b _ _ _ (KeepT.of_keep (KeepBut.set_ (KeepBut.of_below H6.out gp none) 2 (Value.int .i64 (wrap64 (fu - 1))))) hil hib.out HRF.out.symm (blk_put (cs' := #[Value.slice A7 l.length c7, Value.bool false, Value.int .i64 (wrap64 (fu - 1)), Value.int .i64 fa]) BKP.out 2 (Value.int .i64 (wrap64 (fu - 1))) rfl) (R1 (j := 2) HO.out BKP.out (by decide) (Value.int .i64 (wrap64 (fu - 1))))).mono ?_)
                rintro e w12 ⟨rfl, v', hp', ho', hb', h24⟩
                obtain ⟨A8, c8, e8⟩ := Kd.R_slice ho'
                subst e8
                have n0_ := Aside0.mk (k1.trans hb'); have n1_ := Aside0.mk (h24 g6 _ k0); have n2_ := Aside0.mk hp'; have n3_ := Aside0.mk ho'
                clear BK3 BKP BKC BK6 HB HO H6 k0 k1 hp' ho' hb' h24; clear ca0 fa0 ca1 fa1 ca2 fa2 ca3 fa3; clear cb0 fb0 cb1 fb1 cb2 fb2 cb3 fb3; clear cp0 fp0 cp1 fp1 cp2 fp2 cp3 fp3; clear cc0 fc0 cc1 fc1 cc2 fc2
                have HB := n0_; have BK6 := n1_; have BKP := n2_; have HO := n3_; clear n0_ n1_ n2_ n3_
                have cp0 : w12.cell? ⟨gp, 0, none⟩ = some (Value.slice A8 (df (i : Int)).length c8) := (blk_cell BKP.out 0).trans rfl
                have fp0 := blk_frozen BKP.out 0
                have cp1 : w12.cell? ⟨gp, 1, none⟩ = some (Value.bool false) := (blk_cell BKP.out 1).trans rfl
                have fp1 := blk_frozen BKP.out 1
                have cp2 : w12.cell? ⟨gp, 2, none⟩ = some (Value.int .i64 (wrap64 (fu - 1))) := (blk_cell BKP.out 2).trans rfl
                have fp2 := blk_frozen BKP.out 2
                have cp3 : w12.cell? ⟨gp, 3, none⟩ = some (Value.int .i64 fa) := (blk_cell BKP.out 3).trans rfl
                have fp3 := blk_frozen BKP.out 3
                have cb0 : w12.cell? ⟨g6, 0, none⟩ = some (Value.slice none 0 0) := (blk_cell BK6.out 0).trans rfl
                have fb0 := blk_frozen BK6.out 0
                have cb1 : w12.cell? ⟨g6, 1, none⟩ = some (Value.bool false) := (blk_cell BK6.out 1).trans rfl
                have fb1 := blk_frozen BK6.out 1
                have cb2 : w12.cell? ⟨g6, 2, none⟩ = some (Value.int .i64 0) := (blk_cell BK6.out 2).trans rfl
                have fb2 := blk_frozen BK6.out 2
                have cb3 : w12.cell? ⟨g6, 3, none⟩ = some (Value.int .i64 0) := (blk_cell BK6.out 3).trans rfl
                have fb3 := blk_frozen BK6.out 3
                go_wp2
                refine bodyPost_ret (results_ct rfl _ _ g6 24 #[Value.slice A8 (df (i : Int)).length c8, Value.bool false, Value.int .i64 (wrap64 (fu - 1)), Value.int .i64 fa] (0, 0) _ rfl (put4 BK6.out _ _ _ _) Try.underlying24 rfl (by kernel_rfl)) rfl ?_
                rw [HE.out]
                exact ⟨_, rfl, R4 HO.out BK6.out (by decide) _ _ _ _, below4 HB.out G6.out _ _ _ _⟩
              · have hud : decide (0 < fu) = false := by simpa using hup
                have HE : Aside0 (R = (df (i : Int), false, fu, fa, 0)) := ⟨by rw [HRR.out, changedF, if_pos HOK.out, if_neg (by decide), ← HI.out, ← HBE.out, ← HRF.out, if_pos rfl, if_neg hf0, if_neg hu0, if_neg hup, if_neg hfp]⟩
                have hKd := HKd.out
                go_wp2_with fail
                rw [hKd _ _, Oper.upon_enter]
                clear hKd
                have k0 := BK6.out
                have k1 := HB.out
                refine ((Hdo.out w10 i b _ _ _ (KeepT.of_keep (KeepBut.of_below H6.out gp none)) hil hib.out HRF.out.symm (BKP.out) HO.out).mono ?_)
                rintro e w12 ⟨rfl, v', hp', ho', hb', h24⟩
                obtain ⟨A8, c8, e8⟩ := Kd.R_slice ho'
                subst e8
                have n0_ := Aside0.mk (k1.trans hb'); have n1_ := Aside0.mk (h24 g6 _ k0); have n2_ := Aside0.mk hp'; have n3_ := Aside0.mk ho'
                clear BK3 BKP BKC BK6 HB HO H6 k0 k1 hp' ho' hb' h24; clear ca0 fa0 ca1 fa1 ca2 fa2 ca3 fa3; clear cb0 fb0 cb1 fb1 cb2 fb2 cb3 fb3; clear cp0 fp0 cp1 fp1 cp2 fp2 cp3 fp3; clear cc0 fc0 cc1 fc1 cc2 fc2
                have HB := n0_; have BK6 := n1_; have BKP := n2_; have HO := n3_; clear n0_ n1_ n2_ n3_
                have cp0 : w12.cell? ⟨gp, 0, none⟩ = some (Value.slice A8 (df (i : Int)).length c8) := (blk_cell BKP.out 0).trans rfl
                have fp0 := blk_frozen BKP.out 0
                have cp1 : w12.cell? ⟨gp, 1, none⟩ = some (Value.bool false) := (blk_cell BKP.out 1).trans rfl
                have fp1 := blk_frozen BKP.out 1
                have cp2 : w12.cell? ⟨gp, 2, none⟩ = some (Value.int .i64 fu) := (blk_cell BKP.out 2).trans rfl
                have fp2 := blk_frozen BKP.out 2
                have cp3 : w12.cell? ⟨gp, 3, none⟩ = some (Value.int .i64 fa) := (blk_cell BKP.out 3).trans rfl
                have fp3 := blk_frozen BKP.out 3
                have cb0 : w12.cell? ⟨g6, 0, none⟩ = some (Value.slice none 0 0) := (blk_cell BK6.out 0).trans rfl
                have fb0 := blk_frozen BK6.out 0
                have cb1 : w12.cell? ⟨g6, 1, none⟩ = some (Value.bool false) := (blk_cell BK6.out 1).trans rfl
                have fb1 := blk_frozen BK6.out 1
                have cb2 : w12.cell? ⟨g6, 2, none⟩ = some (Value.int .i64 0) := (blk_cell BK6.out 2).trans rfl
                have fb2 := blk_frozen BK6.out 2
                have cb3 : w12.cell? ⟨g6, 3, none⟩ = some (Value.int .i64 0) := (blk_cell BK6.out 3).trans rfl
                have fb3 := blk_frozen BK6.out 3
                go_wp2
                refine bodyPost_ret (results_ct rfl _ _ g6 24 #[Value.slice A8 (df (i : Int)).length c8, Value.bool false, Value.int .i64 fu, Value.int .i64 fa] (0, 0) _ rfl (put4 BK6.out _ _ _ _) Try.underlying24 rfl (by kernel_rfl)) rfl ?_
                rw [HE.out]
                exact ⟨_, rfl, R4 HO.out BK6.out (by decide) _ _ _ _, below4 HB.out G6.out _ _ _ _⟩
      · have HE : Aside0 (R = (l, false, fu, fa, r)) := ⟨by
          rw [HRR.out, changedF, if_pos HOK.out, if_neg (by decide), ← HI.out, ← HBE.out, ← HRF.out, if_neg hr0]⟩
        have hr1 : (r != 0) = true := by simpa using hr0
        clear hr0
        go_wp2
        refine bodyPost_ret (results_ct rfl _ _ g6 24 #[Value.slice A7 l.length c7, Value.bool false, Value.int .i64 fu, Value.int .i64 fa] (0, 0) _ rfl (put4 BK6.out _ _ _ _) Try.underlying24 rfl (by kernel_rfl)) rfl ?_
        rw [HE.out]
        exact ⟨_, rfl, R4 HO.out BK6.out (by decide) _ _ _ _, below4 HB.out G6.out _ _ _ _⟩
  · refine ((disk_Check.calls A c l dn fu fa 6 w2 (Kd.C_below HR.out HB.out) hc (by rw [disk_Check.f, if_neg hok])).mono ?_)
    rintro e w3 ⟨rfl, hb⟩
    have n0_ := Aside0.mk (below_step HB.out hb); have n1_ := Aside0.mk (blk_below BK3.out hb); have n2_ := Aside0.mk (blk_below BK6.out hb)
    clear HB BK3 BK6 hc3_0 hc3_1 hc3_2 hc3_3; have HB := n0_; have BK3 := n1_; have BK6 := n2_; clear n0_ n1_ n2_ hb
    have cb0 : w3.cell? ⟨g6, 0, none⟩ = some (Value.slice none 0 0) := (blk_cell BK6.out 0).trans rfl
    have fb0 := blk_frozen BK6.out 0
    have cb1 : w3.cell? ⟨g6, 1, none⟩ = some (Value.bool false) := (blk_cell BK6.out 1).trans rfl
    have fb1 := blk_frozen BK6.out 1
    have cb2 : w3.cell? ⟨g6, 2, none⟩ = some (Value.int .i64 0) := (blk_cell BK6.out 2).trans rfl
    have fb2 := blk_frozen BK6.out 2
    have cb3 : w3.cell? ⟨g6, 3, none⟩ = some (Value.int .i64 0) := (blk_cell BK6.out 3).trans rfl
    have fb3 := blk_frozen BK6.out 3
    have HE : Aside0 (R = ([], false, 0, 0, 6)) := ⟨by rw [HRR.out, changedF, if_neg hok]⟩
    clear hok
    go_wp2_with fail
    refine bodyPost_ret (results_ct rfl _ _ g6 24 #[.slice none 0 0, .bool false, .int .i64 0, .int .i64 0] (0, 0) _ rfl (put4 BK6.out _ _ _ _) Try.underlying24 rfl (by kernel_rfl)) rfl ?_
    rw [HE.out]
    exact ⟨_, rfl, Kd.R_nil _ _ _ _ _, below4 HB.out G6.out _ _ _ _⟩
end Go.Proofs.Ytanonhipicoigaa.T
