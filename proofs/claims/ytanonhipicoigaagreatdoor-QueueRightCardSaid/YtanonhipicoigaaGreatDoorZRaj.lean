import Derived.Test.YtanonhipicoigaaGreatDoorZRai
import Derived.Laws.EntriesVeiled
import Derived.Deep.RegionLawGrows
import Derived.Test.YtanonhipicoigaaGreatDoorZRag
set_option linter.unusedVariables false
set_option linter.unusedSimpArgs false
set_option maxRecDepth 100000
namespace Go.Proofs.U
open Go.RowKit Go.Proofs.aA.aK Go.Proofs.aA.aW Go.Proofs.aA.aX
def Enters (K : Nat) : Prop := ∀ (args : Array Value) (w : World), (callFunc K args).run Tryz.prog w = .ok (.enter K args) w
def uG (w2 w3 : World) (p : Option Nat) : Prop := ∀ (k : Nat) (cs : Array Value) (t : Nat), t ≠ 179 → t ≠ 27 → some k ≠ p → w2.heap[k]? = some (.cells cs t (0, 0)) → w3.heap[k]? = some (.cells cs t (0, 0))
theorem uG.of_below {w2 w3 : World} (h : Below w2.heap.size w2 w3) : uG w2 w3 none := fun _ _ _ _ _ _ hk => bG hk h
theorem uG.vC {w2 w3 : World} {g : Nat} (h : fA w2 w3 g none) : uG w2 w3 (some g) := fun k _ _ _ _ hg hk => h.blk hk (fun e => hg (by rw [e])) (by simp)
def qbS (w2 : World) (rv : Value) (n : Nat) (rf : Int → Bool → Int) : Prop :=
 ∃ (K : Nat) (caps : Array Value), rv = .func (.func K) #[] caps ∧ Enters K ∧
  ∀ (w3 : World) (i : Nat) (b : Bool), uG w2 w3 none → i ≤ n → (b = true → i < n) →
     Calls Tryz.prog K (#[.int .i64 (i : Int), .bool b] ++ caps) w3 fun e w4 => e = .returned (.int .i64 (rf i b)) ∧ Below w3.heap.size w3 w4
def DoV (base gp : Nat) (w2 : World) (dv v : Value) (l : List S67) (rf : Int → Bool → Int) (df : Int → List S67) : Prop :=
 ∃ (K : Nat) (caps : Array Value), dv = .func (.func K) #[] caps ∧ Enters K ∧
  ∀ (w3 : World) (i : Nat) (b : Bool) (dn : Bool) (fu fa : Int), uG w2 w3 (some gp) → i ≤ l.length → (b = true → i < l.length) → rf i b = 0 →
     w3.heap[gp]? = some (.cells #[v, .bool dn, .int .i64 fu, .int .i64 fa] 211 (0, 0)) → Kd.R k67 67 w3 base (fun _ => True) v l →
     Calls Tryz.prog K (#[.int .i64 (i : Int)] ++ caps) w3 fun e w4 => e = .returned (.tuple #[]) ∧ ∃ v' : Value,
      w4.heap[gp]? = some (.cells #[v', .bool dn, .int .i64 fu, .int .i64 fa] 211 (0, 0)) ∧ Kd.R k67 67 w4 base (fun _ => True) v' (df i) ∧ Below base w3 w4 ∧
      ∀ (k : Nat) (cs : Array Value), w3.heap[k]? = some (.cells cs 27 (0, 0)) → w4.heap[k]? = some (.cells cs 27 (0, 0))
def dF (l : List S67) (dn : Bool) (fu fa : Int) (name : ByteArray) (wr : Bool) (rf : Int → Bool → Int) (df : Int → List S67) : List S67 × Bool × Int × Int × Int :=
 if bI l = true then
  if dn = true then (l, dn, fu, fa, 17)
  else if rf (bsOf l name : Int) (lD l name (bsOf l name)) = 0 then
   if fa = 0 then (l, dn, fu, -1, 18)
   else if fu = 0 then (if wr = true then df (bsOf l name : Int) else l, true, fu, (if 0 < fa then wrap64 (fa - 1) else fa), 17)
   else (df (bsOf l name : Int), dn, (if 0 < fu then wrap64 (fu - 1) else fu), (if 0 < fa then wrap64 (fa - 1) else fa), 0)
  else (l, dn, fu, fa, rf (bsOf l name : Int) (lD l name (bsOf l name)))
 else ([], false, 0, 0, 6)
def OfV (W : World) (K : Nat) (caps : Array Value) (l : List S67) (dn : Bool) (fu fa : Int) (wr : Bool) (rf : Int → Bool → Int) (df : Int → List S67) : Prop :=
 ∀ (w1 : World) (gp : Nat) (v : Value), Below W.heap.size W w1 → W.heap.size ≤ gp → w1.heap[gp]? = some (.cells #[v, .bool dn, .int .i64 fu, .int .i64 fa] 211 (0, 0)) → Kd.R k67 67 w1 W.heap.size (fun _ => True) v l → bI l = true →
  Calls Tryz.prog K (#[.pointer (some ⟨gp, 0, none⟩)] ++ caps) w1 fun e w2 => ∃ rv dv : Value, e = .returned (.agg #[rv, dv, .bool wr]) ∧ Below w1.heap.size w1 w2 ∧ qbS w2 rv l.length rf ∧ DoV W.heap.size gp w2 dv v l rf df
theorem wL {W : World} {g t : Nat} {a0 a1 a2 a3 : Value} (h : W.heap[g]? = some (.cells #[a0, a1, a2, a3] t (0, 0))) (x0 x1 x2 x3 : Value) :
  ((((W.setCell ⟨g, 0, none⟩ x0).setCell ⟨g, 1, none⟩ x1).setCell ⟨g, 2, none⟩ x2).setCell ⟨g, 3, none⟩ x3).heap[g]? = some (.cells #[x0, x1, x2, x3] t (0, 0)) :=
 fQ (cs := #[x0, x1, x2, a3]) (fQ (cs := #[x0, x1, a2, a3]) (fQ (cs := #[x0, a1, a2, a3]) (fQ (cs := #[a0, a1, a2, a3]) h 0 _ rfl) 1 _ rfl) 2 _ rfl) 3 _ rfl
theorem lF {w W : World} {g : Nat} (h : Below w.heap.size w W) (hg : w.heap.size ≤ g) (x0 x1 x2 x3 : Value) :
  Below w.heap.size w ((((W.setCell ⟨g, 0, none⟩ x0).setCell ⟨g, 1, none⟩ x1).setCell ⟨g, 2, none⟩ x2).setCell ⟨g, 3, none⟩ x3) :=
 bM (bM (bM (bM h hg) hg) hg) hg
theorem R4 {W : World} {base g t : Nat} {cs : Array Value} {v : Value} {l : List S67} (h : Kd.R k67 67 W base (fun _ => True) v l) (hb : W.heap[g]? = some (.cells cs t (0, 0))) (ht : 67 ≠ t) (x0 x1 x2 x3 : Value) :
  Kd.R k67 67 ((((W.setCell ⟨g, 0, none⟩ x0).setCell ⟨g, 1, none⟩ x1).setCell ⟨g, 2, none⟩ x2).setCell ⟨g, 3, none⟩ x3) base (fun _ => True) v l :=
 Kd.tJ (Kd.ET (p := ⟨g, 3, none⟩) (Kd.ET (p := ⟨g, 2, none⟩) (Kd.ET (p := ⟨g, 1, none⟩) (Kd.ET (p := ⟨g, 0, none⟩) (Kd.MO h hb (fun q hq => by
  rw [show k67.E = [] from rfl] at hq
  rw [List.mem_singleton.1 hq]
  exact ht)) (fun _ hk => hk.2) _) (fun _ hk => hk.2) _) (fun _ hk => hk.2) _) (fun _ hk => hk.2) _) (fun _ _ => trivial)
theorem qbT {W : World} {g t : Nat} {a0 a1 a2 : Value} (h : W.heap[g]? = some (.cells #[a0, a1, a2] t (0, 0))) (x0 x1 x2 : Value) :
  (((W.setCell ⟨g, 0, none⟩ x0).setCell ⟨g, 1, none⟩ x1).setCell ⟨g, 2, none⟩ x2).heap[g]? = some (.cells #[x0, x1, x2] t (0, 0)) :=
 fQ (cs := #[x0, x1, a2]) (fQ (cs := #[x0, a1, a2]) (fQ (cs := #[a0, a1, a2]) h 0 _ rfl) 1 _ rfl) 2 _ rfl
theorem qdr {W : World} {g g' t : Nat} {cs : Array Value} (h : W.heap[g]? = some (.cells cs t (0, 0))) (hp : g ≠ g') (x0 x1 x2 : Value) :
  (((W.setCell ⟨g', 0, none⟩ x0).setCell ⟨g', 1, none⟩ x1).setCell ⟨g', 2, none⟩ x2).heap[g]? = some (.cells cs t (0, 0)) :=
 dO (p := ⟨g', 2, none⟩) (dO (p := ⟨g', 1, none⟩) (dO (p := ⟨g', 0, none⟩) h hp _) hp _) hp _
theorem below3 {w W : World} {g : Nat} (h : Below w.heap.size w W) (hg : w.heap.size ≤ g) (x0 x1 x2 : Value) :
  Below w.heap.size w (((W.setCell ⟨g, 0, none⟩ x0).setCell ⟨g, 1, none⟩ x1).setCell ⟨g, 2, none⟩ x2) :=
 bM (bM (bM h hg) hg) hg
theorem R3 {W : World} {base g t : Nat} {cs : Array Value} {v : Value} {l : List S67} (h : Kd.R k67 67 W base (fun _ => True) v l) (hb : W.heap[g]? = some (.cells cs t (0, 0))) (ht : 67 ≠ t) (x0 x1 x2 : Value) :
  Kd.R k67 67 (((W.setCell ⟨g, 0, none⟩ x0).setCell ⟨g, 1, none⟩ x1).setCell ⟨g, 2, none⟩ x2) base (fun _ => True) v l :=
 Kd.tJ (Kd.ET (p := ⟨g, 2, none⟩) (Kd.ET (p := ⟨g, 1, none⟩) (Kd.ET (p := ⟨g, 0, none⟩) (Kd.MO h hb (fun q hq => by
  rw [show k67.E = [] from rfl] at hq
  rw [List.mem_singleton.1 hq]
  exact ht)) (fun _ hk => hk.2) _) (fun _ hk => hk.2) _) (fun _ hk => hk.2) _) (fun _ _ => trivial)
theorem R1 {W : World} {base g t j : Nat} {cs : Array Value} {v : Value} {l : List S67} (h : Kd.R k67 67 W base (fun _ => True) v l) (hb : W.heap[g]? = some (.cells cs t (0, 0))) (ht : 67 ≠ t) (x : Value) :
  Kd.R k67 67 (W.setCell ⟨g, j, none⟩ x) base (fun _ => True) v l :=
 Kd.tJ (Kd.ET (p := ⟨g, j, none⟩) (Kd.MO h hb (fun q hq => by
  rw [show k67.E = [] from rfl] at hq
  rw [List.mem_singleton.1 hq]
  exact ht)) (fun _ hk => hk.2) _) (fun _ _ => trivial)
set_option maxHeartbeats 4000000 in
theorem qJ (K : Nat) (caps : Array Value) (hK : Enters K) (A : Option Addr) (c : Nat) (l : List S67) (dn : Bool) (fu fa : Int) (name : ByteArray) (w : World)
  (hr : Kd.C k67 w A l.length l) (hc : l.length ≤ c) (wr : Bool) (rf : Int → Bool → Int) (df : Int → List S67) (HOF : OfV w K caps l dn fu fa wr rf df) :
  Calls Tryz.prog 117 #[.agg #[.slice A l.length c, .bool dn, .int .i64 fu, .int .i64 fa], .string name, .func (.func K) #[] caps] w fun e w' => ∃ v0_ : Value,
   e = .returned (.tuple #[.agg #[v0_, .bool (dF l dn fu fa name wr rf df).2.1, .int .i64 (dF l dn fu fa name wr rf df).2.2.1, .int .i64 (dF l dn fu fa name wr rf df).2.2.2.1], .int .i64 (dF l dn fu fa name wr rf df).2.2.2.2]) ∧
    Kd.R k67 67 w' w.heap.size (fun _ => True) v0_ (dF l dn fu fa name wr rf df).1 ∧ Below w.heap.size w w' := by
 obtain ⟨R, hR⟩ : ∃ R, R = dF l dn fu fa name wr rf df := ⟨_, rfl⟩
 rw [← hR]
 have HRR := aC.mk hR
 clear hR
 have HR := aC.mk hr
 have qgW := aC.mk HOF
 have HK := aC.mk hK
 clear hr HOF hK
 have HB := aC.mk (Below.refl w.heap.size w)
 go_enter Tryz.func117, Tryz.ntmps117
 go_wp2_with (first
 |((with_reducible refine aU (N := 3) rfl ?_);
   refine dL ?hg (N := 3) ?hd (cs := #[.slice A l.length c, .bool dn, .int .i64 fu, .int .i64 fa]) (t := 27) ?hr ?_;
   (case hd => rfl); (case hg => rfl); (case hr => first | (go_simp; done) | (go_simp; rfl));
   intro g3 hg w1 hbox hb;
   have n0_ := aC.mk (bF HB.out hb); have n1_ := aC.mk (show w.heap.size ≤ g3 by rw [hg]; exact HB.out.size);
   clear HB; have HB := n0_; have G3 := n1_; have BK3 := aC.mk hbox; clear n0_ n1_ hg hbox hb)
 |((with_reducible refine aU (N := 6) rfl ?_);
   refine dL ?hg (N := 6) ?hd (cs := #[.slice none 0 0, .bool false, .int .i64 0, .int .i64 0]) (t := 27) ?hr ?_;
   (case hd => rfl); (case hg => rfl); (case hr => first | (go_simp; done) | (go_simp; rfl));
   intro g6 hg w2 hbox hb;
   have n0_ := aC.mk (bF HB.out hb); have n1_ := aC.mk (show w.heap.size ≤ g6 by rw [hg]; exact HB.out.size);
   have n2_ := aC.mk (bG BK3.out hb); have n3_ := aC.mk (show g3 ≠ g6 by rw [hg]; exact Nat.ne_of_lt (gJ BK3.out));
   clear HB BK3; have HB := n0_; have G6 := n1_; have BK3 := n2_; have N36 := n3_; have BK6 := aC.mk hbox; clear n0_ n1_ n2_ n3_ hg hbox hb;
   have qcV : w2.cell? ⟨g3, 0, none⟩ = some (.slice A l.length c) := (aH BK3.out 0).trans rfl;
   have qcW : w2.cell? ⟨g3, 1, none⟩ = some (.bool dn) := (aH BK3.out 1).trans rfl;
   have qcX : w2.cell? ⟨g3, 2, none⟩ = some (.int .i64 fu) := (aH BK3.out 2).trans rfl;
   have qcY : w2.cell? ⟨g3, 3, none⟩ = some (.int .i64 fa) := (aH BK3.out 3).trans rfl)
 |fail)
 by_cases hok : bI l = true
 ·have hle : l.length ≤ 64 := by
   simp only [bI, Bool.and_eq_true, decide_eq_true_eq] at hok
   exact hok.2
  have HOK := aC.mk hok
  refine ((dW.calls A c l dn fu fa 0 w2 (Kd.fK HR.out HB.out) hc (by rw [dW.f, if_pos hok])).mono ?_)
  clear hok
  rintro e w3 ⟨rfl, hb⟩
  have n0_ := aC.mk (bF HB.out hb); have n1_ := aC.mk (bG BK3.out hb); have n2_ := aC.mk (bG BK6.out hb)
  clear HB BK3 BK6 qcV qcW qcX qcY; have HB := n0_; have BK3 := n1_; have BK6 := n2_; clear n0_ n1_ n2_ hb
  have ca0 : w3.cell? ⟨g3, 0, none⟩ = some (Value.slice A l.length c) := (aH BK3.out 0).trans rfl
  have fa0 := aG BK3.out 0
  have ca1 : w3.cell? ⟨g3, 1, none⟩ = some (Value.bool dn) := (aH BK3.out 1).trans rfl
  have fa1 := aG BK3.out 1
  have ca2 : w3.cell? ⟨g3, 2, none⟩ = some (Value.int .i64 fu) := (aH BK3.out 2).trans rfl
  have fa2 := aG BK3.out 2
  have ca3 : w3.cell? ⟨g3, 3, none⟩ = some (Value.int .i64 fa) := (aH BK3.out 3).trans rfl
  have fa3 := aG BK3.out 3
  go_wp2_with fail
  refine ((rZ.calls A c l l w3 (Kd.fK HR.out HB.out) hc (by rw [rZ.f, if_pos (by omega)])).mono ?_)
  rintro e w4 ⟨v, rfl, ho, hb⟩
  have n0_ := aC.mk (bF HB.out hb); have n1_ := aC.mk (bG BK3.out hb); have n2_ := aC.mk (bG BK6.out hb); have HO := aC.mk (Kd.sO ho HB.out.size)
  clear HB BK3 BK6; clear ca0 fa0 ca1 fa1 ca2 fa2 ca3 fa3; have HB := n0_; have BK3 := n1_; have BK6 := n2_; clear n0_ n1_ n2_ hb ho
  obtain ⟨Ao, co, eo⟩ := Kd.dZ HO.out
  subst eo
  have ca0 : w4.cell? ⟨g3, 0, none⟩ = some (Value.slice A l.length c) := (aH BK3.out 0).trans rfl
  have fa0 := aG BK3.out 0
  have ca1 : w4.cell? ⟨g3, 1, none⟩ = some (Value.bool dn) := (aH BK3.out 1).trans rfl
  have fa1 := aG BK3.out 1
  have ca2 : w4.cell? ⟨g3, 2, none⟩ = some (Value.int .i64 fu) := (aH BK3.out 2).trans rfl
  have fa2 := aG BK3.out 2
  have ca3 : w4.cell? ⟨g3, 3, none⟩ = some (Value.int .i64 fa) := (aH BK3.out 3).trans rfl
  have fa3 := aG BK3.out 3
  by_cases hdn : dn = true
  ·subst hdn
   have HE : aC (R = (l, true, fu, fa, 17)) := ⟨by rw [HRR.out, dF, if_pos HOK.out, if_pos rfl]⟩
   go_wp2_with (first
 |((with_reducible refine aU (N := 26) rfl ?_);
   refine dL ?hg (N := 26) ?hd (cs := #[(.slice Ao l.length co), .bool true, .int .i64 fu, .int .i64 fa]) (t := 211) ?hr ?_;
   (case hd => rfl); (case hg => rfl); (case hr => first | (go_simp; done) | (go_simp; rfl));
   intro gp hg w5 hbox hb;
   have m0_ := bM (g := g3) (j := 0) (v := (.slice Ao l.length co)) HB.out G3.out;
   have m1_ := fQ (cs' := #[(.slice Ao l.length co), .bool true, .int .i64 fu, .int .i64 fa]) BK3.out 0 (.slice Ao l.length co) rfl;
   have m2_ := dO (p := ⟨g3, 0, none⟩) BK6.out (fun e => N36.out e.symm) (.slice Ao l.length co);
   have m3_ := R1 (j := 0) HO.out BK3.out (by decide) (.slice Ao l.length co);
   have n0_ := aC.mk (bF m0_ hb); have n1_ := aC.mk (show w.heap.size ≤ gp by rw [hg]; exact m0_.size);
   have n2_ := aC.mk (bG m1_ hb); have n3_ := aC.mk (bG m2_ hb); have n4_ := aC.mk (Kd.qB m3_ hb);
   have n5_ := aC.mk (show g3 ≠ gp by rw [hg]; exact Nat.ne_of_lt (gJ m1_)); have n6_ := aC.mk (show g6 ≠ gp by rw [hg]; exact Nat.ne_of_lt (gJ m2_));
   clear ca0 fa0 ca1 fa1 ca2 fa2 ca3 fa3; clear HB BK3 BK6 HO m0_ m1_ m2_ m3_; have HB := n0_; have GP := n1_; have BK3 := n2_; have BK6 := n3_; have HO := n4_; have N3P := n5_; have N6P := n6_; have BKP := aC.mk hbox;
   clear n0_ n1_ n2_ n3_ n4_ n5_ n6_ hg hbox hb;
   have cp0 : w5.cell? ⟨gp, 0, none⟩ = some (Value.slice Ao l.length co) := (aH BKP.out 0).trans rfl;
   have fp0 := aG BKP.out 0;
   have cp1 : w5.cell? ⟨gp, 1, none⟩ = some (Value.bool true) := (aH BKP.out 1).trans rfl;
   have fp1 := aG BKP.out 1;
   have cp2 : w5.cell? ⟨gp, 2, none⟩ = some (Value.int .i64 fu) := (aH BKP.out 2).trans rfl;
   have fp2 := aG BKP.out 2;
   have cp3 : w5.cell? ⟨gp, 3, none⟩ = some (Value.int .i64 fa) := (aH BKP.out 3).trans rfl;
   have fp3 := aG BKP.out 3;
   have ca0 : w5.cell? ⟨g3, 0, none⟩ = some (Value.slice Ao l.length co) := (aH BK3.out 0).trans rfl;
   have fa0 := aG BK3.out 0;
   have ca1 : w5.cell? ⟨g3, 1, none⟩ = some (Value.bool true) := (aH BK3.out 1).trans rfl;
   have fa1 := aG BK3.out 1;
   have ca2 : w5.cell? ⟨g3, 2, none⟩ = some (Value.int .i64 fu) := (aH BK3.out 2).trans rfl;
   have fa2 := aG BK3.out 2;
   have ca3 : w5.cell? ⟨g3, 3, none⟩ = some (Value.int .i64 fa) := (aH BK3.out 3).trans rfl;
   have fa3 := aG BK3.out 3;
   have cb0 : w5.cell? ⟨g6, 0, none⟩ = some (Value.slice none 0 0) := (aH BK6.out 0).trans rfl;
   have fb0 := aG BK6.out 0;
   have cb1 : w5.cell? ⟨g6, 1, none⟩ = some (Value.bool false) := (aH BK6.out 1).trans rfl;
   have fb1 := aG BK6.out 1;
   have cb2 : w5.cell? ⟨g6, 2, none⟩ = some (Value.int .i64 0) := (aH BK6.out 2).trans rfl;
   have fb2 := aG BK6.out 2;
   have cb3 : w5.cell? ⟨g6, 3, none⟩ = some (Value.int .i64 0) := (aH BK6.out 3).trans rfl;
   have fb3 := aG BK6.out 3)
 |fail)
   refine bodyPost_ret (fU rfl _ _ g6 27 #[Value.slice Ao l.length co, Value.bool true, Value.int .i64 fu, Value.int .i64 fa] (0, 0) _ rfl (wL BK6.out _ _ _ _) Tryz.underlying27 rfl (by kernel_rfl)) rfl ?_
   rw [HE.out]
   exact ⟨_, rfl, R4 HO.out BK6.out (by decide) _ _ _ _, lF HB.out G6.out _ _ _ _⟩
  ·have qgX : dn = false := by simpa using hdn
   subst qgX
   clear hdn
   have hK := HK.out
   go_wp2_with (first
 |((with_reducible refine aU (N := 26) rfl ?_);
   refine dL ?hg (N := 26) ?hd (cs := #[(.slice Ao l.length co), .bool false, .int .i64 fu, .int .i64 fa]) (t := 211) ?hr ?_;
   (case hd => rfl); (case hg => rfl); (case hr => first | (go_simp; done) | (go_simp; rfl));
   intro gp hg w5 hbox hb;
   have m0_ := bM (g := g3) (j := 0) (v := (.slice Ao l.length co)) HB.out G3.out;
   have m1_ := fQ (cs' := #[(.slice Ao l.length co), .bool false, .int .i64 fu, .int .i64 fa]) BK3.out 0 (.slice Ao l.length co) rfl;
   have m2_ := dO (p := ⟨g3, 0, none⟩) BK6.out (fun e => N36.out e.symm) (.slice Ao l.length co);
   have m3_ := R1 (j := 0) HO.out BK3.out (by decide) (.slice Ao l.length co);
   have n0_ := aC.mk (bF m0_ hb); have n1_ := aC.mk (show w.heap.size ≤ gp by rw [hg]; exact m0_.size);
   have n2_ := aC.mk (bG m1_ hb); have n3_ := aC.mk (bG m2_ hb); have n4_ := aC.mk (Kd.qB m3_ hb);
   have n5_ := aC.mk (show g3 ≠ gp by rw [hg]; exact Nat.ne_of_lt (gJ m1_)); have n6_ := aC.mk (show g6 ≠ gp by rw [hg]; exact Nat.ne_of_lt (gJ m2_));
   clear ca0 fa0 ca1 fa1 ca2 fa2 ca3 fa3; clear HB BK3 BK6 HO m0_ m1_ m2_ m3_; have HB := n0_; have GP := n1_; have BK3 := n2_; have BK6 := n3_; have HO := n4_; have N3P := n5_; have N6P := n6_; have BKP := aC.mk hbox;
   clear n0_ n1_ n2_ n3_ n4_ n5_ n6_ hg hbox hb;
   have cp0 : w5.cell? ⟨gp, 0, none⟩ = some (Value.slice Ao l.length co) := (aH BKP.out 0).trans rfl;
   have fp0 := aG BKP.out 0;
   have cp1 : w5.cell? ⟨gp, 1, none⟩ = some (Value.bool false) := (aH BKP.out 1).trans rfl;
   have fp1 := aG BKP.out 1;
   have cp2 : w5.cell? ⟨gp, 2, none⟩ = some (Value.int .i64 fu) := (aH BKP.out 2).trans rfl;
   have fp2 := aG BKP.out 2;
   have cp3 : w5.cell? ⟨gp, 3, none⟩ = some (Value.int .i64 fa) := (aH BKP.out 3).trans rfl;
   have fp3 := aG BKP.out 3;
   have ca0 : w5.cell? ⟨g3, 0, none⟩ = some (Value.slice Ao l.length co) := (aH BK3.out 0).trans rfl;
   have fa0 := aG BK3.out 0;
   have ca1 : w5.cell? ⟨g3, 1, none⟩ = some (Value.bool false) := (aH BK3.out 1).trans rfl;
   have fa1 := aG BK3.out 1;
   have ca2 : w5.cell? ⟨g3, 2, none⟩ = some (Value.int .i64 fu) := (aH BK3.out 2).trans rfl;
   have fa2 := aG BK3.out 2;
   have ca3 : w5.cell? ⟨g3, 3, none⟩ = some (Value.int .i64 fa) := (aH BK3.out 3).trans rfl;
   have fa3 := aG BK3.out 3)
 |fail)
   rw [hK _ _, Oper.upon_enter]
   refine ((qgW.out w5 gp _ HB.out GP.out BKP.out HO.out HOK.out).mono ?_)
   clear hK
   rintro e w6 ⟨rv, dv, rfl, hb, ⟨Kr, cr, rfl, hKr, hrf⟩, ⟨Kd_, cd, rfl, hKd, hdo⟩⟩
   have HKr := aC.mk hKr
   have HKd := aC.mk hKd
   have Hrf := aC.mk hrf
   have Hdo := aC.mk hdo
   have n0_ := aC.mk (bF HB.out hb); have n1_ := aC.mk (bG BK3.out hb); have n2_ := aC.mk (bG BK6.out hb)
   have n3_ := aC.mk (bG BKP.out hb); have n4_ := aC.mk (Kd.qB HO.out hb)
   clear HB BK3 BK6 BKP HO hKr hKd hrf hdo; clear ca0 fa0 ca1 fa1 ca2 fa2 ca3 fa3; clear cp0 fp0 cp1 fp1 cp2 fp2 cp3 fp3; have HB := n0_; have BK3 := n1_; have BK6 := n2_; have BKP := n3_; have HO := n4_; clear n0_ n1_ n2_ n3_ n4_ hb
   go_wp2_with (first
 |((with_reducible refine aU (N := 10) rfl ?_);
   refine dL ?hg (N := 10) ?hd (cs := #[.nilFunc, .nilFunc, .bool false]) (t := 179) ?hr ?_;
   (case hd => rfl); (case hg => rfl); (case hr => first | (go_simp; done) | (go_simp; rfl));
   intro gc hg w7 hbox hb;
   have n0_ := aC.mk (bF HB.out hb); have n1_ := aC.mk (show w.heap.size ≤ gc by rw [hg]; exact HB.out.size);
   have n2_ := aC.mk (bG BK3.out hb); have n3_ := aC.mk (bG BK6.out hb); have n4_ := aC.mk (bG BKP.out hb); have n5_ := aC.mk (Kd.qB HO.out hb);
   have n6_ := aC.mk (show g3 ≠ gc by rw [hg]; exact Nat.ne_of_lt (gJ BK3.out)); have n7_ := aC.mk (show g6 ≠ gc by rw [hg]; exact Nat.ne_of_lt (gJ BK6.out)); have n8_ := aC.mk (show gp ≠ gc by rw [hg]; exact Nat.ne_of_lt (gJ BKP.out));
   have n9_ := aC.mk (show w6.heap.size ≤ gc by rw [hg]; exact Nat.le_refl _);
   have H6 := aC.mk hb;
   clear HB BK3 BK6 BKP HO; have HB := n0_; have GC := n1_; have BK3 := n2_; have BK6 := n3_; have BKP := n4_; have HO := n5_; have N3C := n6_; have N6C := n7_; have NPC := n8_; have GC6 := n9_; have BKC := aC.mk hbox;
   clear n0_ n1_ n2_ n3_ n4_ n5_ n6_ n7_ n8_ n9_ hg hbox hb;
   have hq1 : g3 ≠ gc := N3C.out; have hq2 : gc ≠ g3 := fun e => N3C.out e.symm;
   have ca0 : w7.cell? ⟨g3, 0, none⟩ = some (Value.slice Ao l.length co) := (aH BK3.out 0).trans rfl;
   have fa0 := aG BK3.out 0;
   have ca1 : w7.cell? ⟨g3, 1, none⟩ = some (Value.bool false) := (aH BK3.out 1).trans rfl;
   have fa1 := aG BK3.out 1;
   have ca2 : w7.cell? ⟨g3, 2, none⟩ = some (Value.int .i64 fu) := (aH BK3.out 2).trans rfl;
   have fa2 := aG BK3.out 2;
   have ca3 : w7.cell? ⟨g3, 3, none⟩ = some (Value.int .i64 fa) := (aH BK3.out 3).trans rfl;
   have fa3 := aG BK3.out 3;
   have cc0 : w7.cell? ⟨gc, 0, none⟩ = some (Value.nilFunc) := (aH BKC.out 0).trans rfl;
   have fc0 := aG BKC.out 0;
   have cc1 : w7.cell? ⟨gc, 1, none⟩ = some (Value.nilFunc) := (aH BKC.out 1).trans rfl;
   have fc1 := aG BKC.out 1;
   have cc2 : w7.cell? ⟨gc, 2, none⟩ = some (Value.bool false) := (aH BKC.out 2).trans rfl;
   have fc2 := aG BKC.out 2)
 |fail)
   clear hq1 hq2
   have k0 := below3 HB.out GC.out (.func (.func Kr) #[] cr) (.func (.func Kd_) #[] cd) (.bool wr)
   have k1 := qdr BK3.out N3C.out (.func (.func Kr) #[] cr) (.func (.func Kd_) #[] cd) (.bool wr)
   have k2 := qdr BK6.out N6C.out (.func (.func Kr) #[] cr) (.func (.func Kd_) #[] cd) (.bool wr)
   have k3 := qdr BKP.out NPC.out (.func (.func Kr) #[] cr) (.func (.func Kd_) #[] cd) (.bool wr)
   have k4 := qbT BKC.out (.func (.func Kr) #[] cr) (.func (.func Kd_) #[] cd) (.bool wr)
   have k5 := R3 HO.out BKC.out (by decide) (.func (.func Kr) #[] cr) (.func (.func Kd_) #[] cd) (.bool wr)
   have k6 := below3 H6.out GC6.out (.func (.func Kr) #[] cr) (.func (.func Kd_) #[] cd) (.bool wr)
   have k7 := (Kd.CG k5)
   obtain ⟨A7, c7, he7, hl7, hr7⟩ := k7
   obtain ⟨rfl, rfl⟩ : A7 = Ao ∧ c7 = co := by injection he7 with e1 _ e2; exact ⟨e1.symm, e2.symm⟩
   clear he7
   refine ((rY.calls A7 c7 l false fu fa name _ _ _ hr7 hl7 (by rw [rY.f, if_pos hle])).mono ?_)
   rintro e w9 ⟨rfl, hb⟩
   obtain ⟨i, hi⟩ : ∃ i, i = bsOf l name := ⟨_, rfl⟩
   rw [← hi]
   obtain ⟨b, hbe⟩ : ∃ b, b = lD l name i := ⟨_, rfl⟩
   rw [← hbe]
   have HI := aC.mk hi
   have HBE := aC.mk hbe
   have hil : i ≤ l.length := by rw [hi]; exact (GV l name _ _ _ (Nat.zero_le _)).2
   have hib : aC (b = true → i < l.length) := ⟨fun h => by
    rw [hbe, lD, Bool.and_eq_true, decide_eq_true_eq] at h
    exact h.1⟩
   clear hi hbe hl7 hr7
   have n0_ := aC.mk (bF k0 hb); have n1_ := aC.mk (bG k1 hb); have n2_ := aC.mk (bG k2 hb); have n3_ := aC.mk (bG k3 hb); have n4_ := aC.mk (bG k4 hb); have n5_ := aC.mk (Kd.qB k5 hb); have n6_ := aC.mk (bF k6 hb)
   clear HB BK3 BK6 BKP BKC HO H6 k0 k1 k2 k3 k4 k5 k6; clear ca0 fa0 ca1 fa1 ca2 fa2 ca3 fa3; clear cc0 fc0 cc1 fc1 cc2 fc2; have HB := n0_; have BK3 := n1_; have BK6 := n2_; have BKP := n3_; have BKC := n4_; have HO := n5_; have H6 := n6_; clear n0_ n1_ n2_ n3_ n4_ n5_ n6_ hb
   have cc0 : w9.cell? ⟨gc, 0, none⟩ = some (Value.func (.func Kr) #[] cr) := (aH BKC.out 0).trans rfl
   have fc0 := aG BKC.out 0
   have cc1 : w9.cell? ⟨gc, 1, none⟩ = some (Value.func (.func Kd_) #[] cd) := (aH BKC.out 1).trans rfl
   have fc1 := aG BKC.out 1
   have cc2 : w9.cell? ⟨gc, 2, none⟩ = some (Value.bool wr) := (aH BKC.out 2).trans rfl
   have fc2 := aG BKC.out 2
   have hKr := HKr.out
   go_wp2_with fail
   rw [hKr _ _, Oper.upon_enter]
   clear hKr
   refine ((Hrf.out w9 i b (uG.of_below H6.out) hil hib.out).mono ?_)
   rintro e w10 ⟨rfl, hb⟩
   obtain ⟨r, hr⟩ : ∃ r, r = rf (i : Int) b := ⟨_, rfl⟩
   rw [← hr]
   have HRF := aC.mk hr
   clear hr
   have n0_ := aC.mk (bF HB.out hb); have n1_ := aC.mk (bG BK3.out hb); have n2_ := aC.mk (bG BK6.out hb); have n3_ := aC.mk (bG BKP.out hb); have n4_ := aC.mk (bG BKC.out hb); have n5_ := aC.mk (Kd.qB HO.out hb); have n6_ := aC.mk (bF H6.out hb)
   clear HB BK3 BK6 BKP BKC HO H6; clear cc0 fc0 cc1 fc1 cc2 fc2; have HB := n0_; have BK3 := n1_; have BK6 := n2_; have BKP := n3_; have BKC := n4_; have HO := n5_; have H6 := n6_; clear n0_ n1_ n2_ n3_ n4_ n5_ n6_ hb
   have ca0 : w10.cell? ⟨g3, 0, none⟩ = some (Value.slice A7 l.length c7) := (aH BK3.out 0).trans rfl
   have fa0 := aG BK3.out 0
   have ca1 : w10.cell? ⟨g3, 1, none⟩ = some (Value.bool false) := (aH BK3.out 1).trans rfl
   have fa1 := aG BK3.out 1
   have ca2 : w10.cell? ⟨g3, 2, none⟩ = some (Value.int .i64 fu) := (aH BK3.out 2).trans rfl
   have fa2 := aG BK3.out 2
   have ca3 : w10.cell? ⟨g3, 3, none⟩ = some (Value.int .i64 fa) := (aH BK3.out 3).trans rfl
   have fa3 := aG BK3.out 3
   have cb0 : w10.cell? ⟨g6, 0, none⟩ = some (Value.slice none 0 0) := (aH BK6.out 0).trans rfl
   have fb0 := aG BK6.out 0
   have cb1 : w10.cell? ⟨g6, 1, none⟩ = some (Value.bool false) := (aH BK6.out 1).trans rfl
   have fb1 := aG BK6.out 1
   have cb2 : w10.cell? ⟨g6, 2, none⟩ = some (Value.int .i64 0) := (aH BK6.out 2).trans rfl
   have fb2 := aG BK6.out 2
   have cb3 : w10.cell? ⟨g6, 3, none⟩ = some (Value.int .i64 0) := (aH BK6.out 3).trans rfl
   have fb3 := aG BK6.out 3
   have cp0 : w10.cell? ⟨gp, 0, none⟩ = some (Value.slice A7 l.length c7) := (aH BKP.out 0).trans rfl
   have fp0 := aG BKP.out 0
   have cp1 : w10.cell? ⟨gp, 1, none⟩ = some (Value.bool false) := (aH BKP.out 1).trans rfl
   have fp1 := aG BKP.out 1
   have cp2 : w10.cell? ⟨gp, 2, none⟩ = some (Value.int .i64 fu) := (aH BKP.out 2).trans rfl
   have fp2 := aG BKP.out 2
   have cp3 : w10.cell? ⟨gp, 3, none⟩ = some (Value.int .i64 fa) := (aH BKP.out 3).trans rfl
   have fp3 := aG BKP.out 3
   have cc0 : w10.cell? ⟨gc, 0, none⟩ = some (Value.func (.func Kr) #[] cr) := (aH BKC.out 0).trans rfl
   have fc0 := aG BKC.out 0
   have cc1 : w10.cell? ⟨gc, 1, none⟩ = some (Value.func (.func Kd_) #[] cd) := (aH BKC.out 1).trans rfl
   have fc1 := aG BKC.out 1
   have cc2 : w10.cell? ⟨gc, 2, none⟩ = some (Value.bool wr) := (aH BKC.out 2).trans rfl
   have fc2 := aG BKC.out 2
   by_cases hr0 : r = 0
   ·subst hr0
    have q1 : g3 ≠ gp := N3P.out
    have q2 : gp ≠ g3 := fun e => N3P.out e.symm
    have q3 : g6 ≠ gp := N6P.out
    have q4 : gp ≠ g6 := fun e => N6P.out e.symm
    have q5 : gp ≠ gc := NPC.out
    have q6 : gc ≠ gp := fun e => NPC.out e.symm
    by_cases hf0 : fa = 0
    ·have hf1 : (fa == 0) = true := by simpa using hf0
     have HE : aC (R = (l, false, fu, -1, 18)) := ⟨by rw [HRR.out, dF, if_pos HOK.out, if_neg (by decide), ← HI.out, ← HBE.out, ← HRF.out, if_pos rfl, if_pos hf0]⟩
     go_wp2
     refine bodyPost_ret (fU rfl _ _ g6 27 #[Value.slice A7 l.length c7, Value.bool false, Value.int .i64 fu, Value.int .i64 (-1)] (0, 0) _ rfl (wL (dO (p := ⟨gp, 3, none⟩) BK6.out N6P.out (Value.int .i64 (-1))) _ _ _ _) Tryz.underlying27 rfl (by kernel_rfl)) rfl ?_
     rw [HE.out]
     exact ⟨_, rfl, R4 (R1 (j := 3) HO.out BKP.out (by decide) (Value.int .i64 (-1))) (dO (p := ⟨gp, 3, none⟩) BK6.out N6P.out (Value.int .i64 (-1))) (by decide) _ _ _ _, lF (bM (j := 3) (v := Value.int .i64 (-1)) HB.out GP.out) G6.out _ _ _ _⟩
    ·have hf1 : (fa == 0) = false := by simpa using hf0
     by_cases hfp : 0 < fa
     ·have hfd : decide (0 < fa) = true := by simpa using hfp
      by_cases hu0 : fu = 0
      ·have hu1 : (fu == 0) = true := by simpa using hu0
       have HU0 := aC.mk hu0
       clear hu0
       cases wr with
       | true =>
        have HE : aC (R = (df (i : Int), true, fu, wrap64 (fa - 1), 17)) := ⟨by rw [HRR.out, dF, if_pos HOK.out, if_neg (by decide), ← HI.out, ← HBE.out, ← HRF.out, if_pos rfl, if_neg hf0, if_pos HU0.out, if_pos rfl, if_pos hfp]⟩
        have hKd := HKd.out
        go_wp2_with fail
        rw [hKd _ _, Oper.upon_enter]
        clear hKd
        have k0 := (dO (p := ⟨gp, 1, none⟩) (dO (p := ⟨gp, 3, none⟩) BK6.out N6P.out (Value.int .i64 (wrap64 (fa - 1)))) N6P.out (Value.bool true))
        have k1 := (bM (j := 1) (v := Value.bool true) (bM (j := 3) (v := Value.int .i64 (wrap64 (fa - 1))) HB.out GP.out) GP.out)
        refine ((Hdo.out ((w10.setCell ⟨gp, 3, none⟩ (Value.int .i64 (wrap64 (fa - 1)))).setCell ⟨gp, 1, none⟩ (Value.bool true)) i b _ _ _ (uG.vC (fA.PG (fA.PG (fA.of_below H6.out gp none) 3 (Value.int .i64 (wrap64 (fa - 1)))) 1 (Value.bool true))) hil hib.out HRF.out.symm (fQ (cs' := #[Value.slice A7 l.length c7, Value.bool true, Value.int .i64 fu, Value.int .i64 (wrap64 (fa - 1))]) (fQ (cs' := #[Value.slice A7 l.length c7, Value.bool false, Value.int .i64 fu, Value.int .i64 (wrap64 (fa - 1))]) BKP.out 3 (Value.int .i64 (wrap64 (fa - 1))) rfl) 1 (Value.bool true) rfl) (R1 (j := 1) (R1 (j := 3) HO.out BKP.out (by decide) (Value.int .i64 (wrap64 (fa - 1)))) (fQ (cs' := #[Value.slice A7 l.length c7, Value.bool false, Value.int .i64 fu, Value.int .i64 (wrap64 (fa - 1))]) BKP.out 3 (Value.int .i64 (wrap64 (fa - 1))) rfl) (by decide) (Value.bool true))).mono ?_)
        rintro e w12 ⟨rfl, v', hp', ho', hb', h24⟩
        obtain ⟨A8, c8, e8⟩ := Kd.dZ ho'
        subst e8
        have n0_ := aC.mk (k1.trans hb'); have n1_ := aC.mk (h24 g6 _ k0); have n2_ := aC.mk hp'; have n3_ := aC.mk ho'
        clear BK3 BKP BKC BK6 HB HO H6 k0 k1 hp' ho' hb' h24; clear ca0 fa0 ca1 fa1 ca2 fa2 ca3 fa3; clear cb0 fb0 cb1 fb1 cb2 fb2 cb3 fb3; clear cp0 fp0 cp1 fp1 cp2 fp2 cp3 fp3; clear cc0 fc0 cc1 fc1 cc2 fc2
        have HB := n0_; have BK6 := n1_; have BKP := n2_; have HO := n3_; clear n0_ n1_ n2_ n3_
        have cp0 : w12.cell? ⟨gp, 0, none⟩ = some (Value.slice A8 (df (i : Int)).length c8) := (aH BKP.out 0).trans rfl
        have fp0 := aG BKP.out 0
        have cp1 : w12.cell? ⟨gp, 1, none⟩ = some (Value.bool true) := (aH BKP.out 1).trans rfl
        have fp1 := aG BKP.out 1
        have cp2 : w12.cell? ⟨gp, 2, none⟩ = some (Value.int .i64 fu) := (aH BKP.out 2).trans rfl
        have fp2 := aG BKP.out 2
        have cp3 : w12.cell? ⟨gp, 3, none⟩ = some (Value.int .i64 (wrap64 (fa - 1))) := (aH BKP.out 3).trans rfl
        have fp3 := aG BKP.out 3
        have cb0 : w12.cell? ⟨g6, 0, none⟩ = some (Value.slice none 0 0) := (aH BK6.out 0).trans rfl
        have fb0 := aG BK6.out 0
        have cb1 : w12.cell? ⟨g6, 1, none⟩ = some (Value.bool false) := (aH BK6.out 1).trans rfl
        have fb1 := aG BK6.out 1
        have cb2 : w12.cell? ⟨g6, 2, none⟩ = some (Value.int .i64 0) := (aH BK6.out 2).trans rfl
        have fb2 := aG BK6.out 2
        have cb3 : w12.cell? ⟨g6, 3, none⟩ = some (Value.int .i64 0) := (aH BK6.out 3).trans rfl
        have fb3 := aG BK6.out 3
        go_wp2
        refine bodyPost_ret (fU rfl _ _ g6 27 #[Value.slice A8 (df (i : Int)).length c8, Value.bool true, Value.int .i64 fu, Value.int .i64 (wrap64 (fa - 1))] (0, 0) _ rfl (wL BK6.out _ _ _ _) Tryz.underlying27 rfl (by kernel_rfl)) rfl ?_
        rw [HE.out]
        exact ⟨_, rfl, R4 HO.out BK6.out (by decide) _ _ _ _, lF HB.out G6.out _ _ _ _⟩
       | false =>
        have HE : aC (R = (l, true, fu, wrap64 (fa - 1), 17)) := ⟨by rw [HRR.out, dF, if_pos HOK.out, if_neg (by decide), ← HI.out, ← HBE.out, ← HRF.out, if_pos rfl, if_neg hf0, if_pos HU0.out, if_neg (by decide), if_pos hfp]⟩
        go_wp2
        refine bodyPost_ret (fU rfl _ _ g6 27 #[Value.slice A7 l.length c7, Value.bool true, Value.int .i64 fu, Value.int .i64 (wrap64 (fa - 1))] (0, 0) _ rfl (wL (dO (p := ⟨gp, 1, none⟩) (dO (p := ⟨gp, 3, none⟩) BK6.out N6P.out (Value.int .i64 (wrap64 (fa - 1)))) N6P.out (Value.bool true)) _ _ _ _) Tryz.underlying27 rfl (by kernel_rfl)) rfl ?_
        rw [HE.out]
        exact ⟨_, rfl, R4 (R1 (j := 1) (R1 (j := 3) HO.out BKP.out (by decide) (Value.int .i64 (wrap64 (fa - 1)))) (fQ (cs' := #[Value.slice A7 l.length c7, Value.bool false, Value.int .i64 fu, Value.int .i64 (wrap64 (fa - 1))]) BKP.out 3 (Value.int .i64 (wrap64 (fa - 1))) rfl) (by decide) (Value.bool true)) (dO (p := ⟨gp, 1, none⟩) (dO (p := ⟨gp, 3, none⟩) BK6.out N6P.out (Value.int .i64 (wrap64 (fa - 1)))) N6P.out (Value.bool true)) (by decide) _ _ _ _, lF (bM (j := 1) (v := Value.bool true) (bM (j := 3) (v := Value.int .i64 (wrap64 (fa - 1))) HB.out GP.out) GP.out) G6.out _ _ _ _⟩
      ·have hu1 : (fu == 0) = false := by simpa using hu0
       by_cases hup : 0 < fu
       ·have hud : decide (0 < fu) = true := by simpa using hup
        have HE : aC (R = (df (i : Int), false, wrap64 (fu - 1), wrap64 (fa - 1), 0)) := ⟨by rw [HRR.out, dF, if_pos HOK.out, if_neg (by decide), ← HI.out, ← HBE.out, ← HRF.out, if_pos rfl, if_neg hf0, if_neg hu0, if_pos hup, if_pos hfp]⟩
        have hKd := HKd.out
        go_wp2_with fail
        rw [hKd _ _, Oper.upon_enter]
        clear hKd
        have k0 := (dO (p := ⟨gp, 2, none⟩) (dO (p := ⟨gp, 3, none⟩) BK6.out N6P.out (Value.int .i64 (wrap64 (fa - 1)))) N6P.out (Value.int .i64 (wrap64 (fu - 1))))
        have k1 := (bM (j := 2) (v := Value.int .i64 (wrap64 (fu - 1))) (bM (j := 3) (v := Value.int .i64 (wrap64 (fa - 1))) HB.out GP.out) GP.out)
        refine ((Hdo.out ((w10.setCell ⟨gp, 3, none⟩ (Value.int .i64 (wrap64 (fa - 1)))).setCell ⟨gp, 2, none⟩ (Value.int .i64 (wrap64 (fu - 1)))) i b _ _ _ (uG.vC (fA.PG (fA.PG (fA.of_below H6.out gp none) 3 (Value.int .i64 (wrap64 (fa - 1)))) 2 (Value.int .i64 (wrap64 (fu - 1))))) hil hib.out HRF.out.symm (fQ (cs' := #[Value.slice A7 l.length c7, Value.bool false, Value.int .i64 (wrap64 (fu - 1)), Value.int .i64 (wrap64 (fa - 1))]) (fQ (cs' := #[Value.slice A7 l.length c7, Value.bool false, Value.int .i64 fu, Value.int .i64 (wrap64 (fa - 1))]) BKP.out 3 (Value.int .i64 (wrap64 (fa - 1))) rfl) 2 (Value.int .i64 (wrap64 (fu - 1))) rfl) (R1 (j := 2) (R1 (j := 3) HO.out BKP.out (by decide) (Value.int .i64 (wrap64 (fa - 1)))) (fQ (cs' := #[Value.slice A7 l.length c7, Value.bool false, Value.int .i64 fu, Value.int .i64 (wrap64 (fa - 1))]) BKP.out 3 (Value.int .i64 (wrap64 (fa - 1))) rfl) (by decide) (Value.int .i64 (wrap64 (fu - 1))))).mono ?_)
        rintro e w12 ⟨rfl, v', hp', ho', hb', h24⟩
        obtain ⟨A8, c8, e8⟩ := Kd.dZ ho'
        subst e8
        have n0_ := aC.mk (k1.trans hb'); have n1_ := aC.mk (h24 g6 _ k0); have n2_ := aC.mk hp'; have n3_ := aC.mk ho'
        clear BK3 BKP BKC BK6 HB HO H6 k0 k1 hp' ho' hb' h24; clear ca0 fa0 ca1 fa1 ca2 fa2 ca3 fa3; clear cb0 fb0 cb1 fb1 cb2 fb2 cb3 fb3; clear cp0 fp0 cp1 fp1 cp2 fp2 cp3 fp3; clear cc0 fc0 cc1 fc1 cc2 fc2
        have HB := n0_; have BK6 := n1_; have BKP := n2_; have HO := n3_; clear n0_ n1_ n2_ n3_
        have cp0 : w12.cell? ⟨gp, 0, none⟩ = some (Value.slice A8 (df (i : Int)).length c8) := (aH BKP.out 0).trans rfl
        have fp0 := aG BKP.out 0
        have cp1 : w12.cell? ⟨gp, 1, none⟩ = some (Value.bool false) := (aH BKP.out 1).trans rfl
        have fp1 := aG BKP.out 1
        have cp2 : w12.cell? ⟨gp, 2, none⟩ = some (Value.int .i64 (wrap64 (fu - 1))) := (aH BKP.out 2).trans rfl
        have fp2 := aG BKP.out 2
        have cp3 : w12.cell? ⟨gp, 3, none⟩ = some (Value.int .i64 (wrap64 (fa - 1))) := (aH BKP.out 3).trans rfl
        have fp3 := aG BKP.out 3
        have cb0 : w12.cell? ⟨g6, 0, none⟩ = some (Value.slice none 0 0) := (aH BK6.out 0).trans rfl
        have fb0 := aG BK6.out 0
        have cb1 : w12.cell? ⟨g6, 1, none⟩ = some (Value.bool false) := (aH BK6.out 1).trans rfl
        have fb1 := aG BK6.out 1
        have cb2 : w12.cell? ⟨g6, 2, none⟩ = some (Value.int .i64 0) := (aH BK6.out 2).trans rfl
        have fb2 := aG BK6.out 2
        have cb3 : w12.cell? ⟨g6, 3, none⟩ = some (Value.int .i64 0) := (aH BK6.out 3).trans rfl
        have fb3 := aG BK6.out 3
        go_wp2
        refine bodyPost_ret (fU rfl _ _ g6 27 #[Value.slice A8 (df (i : Int)).length c8, Value.bool false, Value.int .i64 (wrap64 (fu - 1)), Value.int .i64 (wrap64 (fa - 1))] (0, 0) _ rfl (wL BK6.out _ _ _ _) Tryz.underlying27 rfl (by kernel_rfl)) rfl ?_
        rw [HE.out]
        exact ⟨_, rfl, R4 HO.out BK6.out (by decide) _ _ _ _, lF HB.out G6.out _ _ _ _⟩
       ·have hud : decide (0 < fu) = false := by simpa using hup
        have HE : aC (R = (df (i : Int), false, fu, wrap64 (fa - 1), 0)) := ⟨by rw [HRR.out, dF, if_pos HOK.out, if_neg (by decide), ← HI.out, ← HBE.out, ← HRF.out, if_pos rfl, if_neg hf0, if_neg hu0, if_neg hup, if_pos hfp]⟩
        have hKd := HKd.out
        go_wp2_with fail
        rw [hKd _ _, Oper.upon_enter]
        clear hKd
        have k0 := (dO (p := ⟨gp, 3, none⟩) BK6.out N6P.out (Value.int .i64 (wrap64 (fa - 1))))
        have k1 := (bM (j := 3) (v := Value.int .i64 (wrap64 (fa - 1))) HB.out GP.out)
        refine ((Hdo.out (w10.setCell ⟨gp, 3, none⟩ (Value.int .i64 (wrap64 (fa - 1)))) i b _ _ _ (uG.vC (fA.PG (fA.of_below H6.out gp none) 3 (Value.int .i64 (wrap64 (fa - 1))))) hil hib.out HRF.out.symm (fQ (cs' := #[Value.slice A7 l.length c7, Value.bool false, Value.int .i64 fu, Value.int .i64 (wrap64 (fa - 1))]) BKP.out 3 (Value.int .i64 (wrap64 (fa - 1))) rfl) (R1 (j := 3) HO.out BKP.out (by decide) (Value.int .i64 (wrap64 (fa - 1))))).mono ?_)
        rintro e w12 ⟨rfl, v', hp', ho', hb', h24⟩
        obtain ⟨A8, c8, e8⟩ := Kd.dZ ho'
        subst e8
        have n0_ := aC.mk (k1.trans hb'); have n1_ := aC.mk (h24 g6 _ k0); have n2_ := aC.mk hp'; have n3_ := aC.mk ho'
        clear BK3 BKP BKC BK6 HB HO H6 k0 k1 hp' ho' hb' h24; clear ca0 fa0 ca1 fa1 ca2 fa2 ca3 fa3; clear cb0 fb0 cb1 fb1 cb2 fb2 cb3 fb3; clear cp0 fp0 cp1 fp1 cp2 fp2 cp3 fp3; clear cc0 fc0 cc1 fc1 cc2 fc2
        have HB := n0_; have BK6 := n1_; have BKP := n2_; have HO := n3_; clear n0_ n1_ n2_ n3_
        have cp0 : w12.cell? ⟨gp, 0, none⟩ = some (Value.slice A8 (df (i : Int)).length c8) := (aH BKP.out 0).trans rfl
        have fp0 := aG BKP.out 0
        have cp1 : w12.cell? ⟨gp, 1, none⟩ = some (Value.bool false) := (aH BKP.out 1).trans rfl
        have fp1 := aG BKP.out 1
        have cp2 : w12.cell? ⟨gp, 2, none⟩ = some (Value.int .i64 fu) := (aH BKP.out 2).trans rfl
        have fp2 := aG BKP.out 2
        have cp3 : w12.cell? ⟨gp, 3, none⟩ = some (Value.int .i64 (wrap64 (fa - 1))) := (aH BKP.out 3).trans rfl
        have fp3 := aG BKP.out 3
        have cb0 : w12.cell? ⟨g6, 0, none⟩ = some (Value.slice none 0 0) := (aH BK6.out 0).trans rfl
        have fb0 := aG BK6.out 0
        have cb1 : w12.cell? ⟨g6, 1, none⟩ = some (Value.bool false) := (aH BK6.out 1).trans rfl
        have fb1 := aG BK6.out 1
        have cb2 : w12.cell? ⟨g6, 2, none⟩ = some (Value.int .i64 0) := (aH BK6.out 2).trans rfl
        have fb2 := aG BK6.out 2
        have cb3 : w12.cell? ⟨g6, 3, none⟩ = some (Value.int .i64 0) := (aH BK6.out 3).trans rfl
        have fb3 := aG BK6.out 3
        go_wp2
        refine bodyPost_ret (fU rfl _ _ g6 27 #[Value.slice A8 (df (i : Int)).length c8, Value.bool false, Value.int .i64 fu, Value.int .i64 (wrap64 (fa - 1))] (0, 0) _ rfl (wL BK6.out _ _ _ _) Tryz.underlying27 rfl (by kernel_rfl)) rfl ?_
        rw [HE.out]
        exact ⟨_, rfl, R4 HO.out BK6.out (by decide) _ _ _ _, lF HB.out G6.out _ _ _ _⟩
     ·have hfd : decide (0 < fa) = false := by simpa using hfp
      by_cases hu0 : fu = 0
      ·have hu1 : (fu == 0) = true := by simpa using hu0
       have HU0 := aC.mk hu0
       clear hu0
       cases wr with
       | true =>
        have HE : aC (R = (df (i : Int), true, fu, fa, 17)) := ⟨by rw [HRR.out, dF, if_pos HOK.out, if_neg (by decide), ← HI.out, ← HBE.out, ← HRF.out, if_pos rfl, if_neg hf0, if_pos HU0.out, if_pos rfl, if_neg hfp]⟩
        have hKd := HKd.out
        go_wp2_with fail
        rw [hKd _ _, Oper.upon_enter]
        clear hKd
        have k0 := (dO (p := ⟨gp, 1, none⟩) BK6.out N6P.out (Value.bool true))
        have k1 := (bM (j := 1) (v := Value.bool true) HB.out GP.out)
        refine ((Hdo.out (w10.setCell ⟨gp, 1, none⟩ (Value.bool true)) i b _ _ _ (uG.vC (fA.PG (fA.of_below H6.out gp none) 1 (Value.bool true))) hil hib.out HRF.out.symm (fQ (cs' := #[Value.slice A7 l.length c7, Value.bool true, Value.int .i64 fu, Value.int .i64 fa]) BKP.out 1 (Value.bool true) rfl) (R1 (j := 1) HO.out BKP.out (by decide) (Value.bool true))).mono ?_)
        rintro e w12 ⟨rfl, v', hp', ho', hb', h24⟩
        obtain ⟨A8, c8, e8⟩ := Kd.dZ ho'
        subst e8
        have n0_ := aC.mk (k1.trans hb'); have n1_ := aC.mk (h24 g6 _ k0); have n2_ := aC.mk hp'; have n3_ := aC.mk ho'
        clear BK3 BKP BKC BK6 HB HO H6 k0 k1 hp' ho' hb' h24; clear ca0 fa0 ca1 fa1 ca2 fa2 ca3 fa3; clear cb0 fb0 cb1 fb1 cb2 fb2 cb3 fb3; clear cp0 fp0 cp1 fp1 cp2 fp2 cp3 fp3; clear cc0 fc0 cc1 fc1 cc2 fc2
        have HB := n0_; have BK6 := n1_; have BKP := n2_; have HO := n3_; clear n0_ n1_ n2_ n3_
        have cp0 : w12.cell? ⟨gp, 0, none⟩ = some (Value.slice A8 (df (i : Int)).length c8) := (aH BKP.out 0).trans rfl
        have fp0 := aG BKP.out 0
        have cp1 : w12.cell? ⟨gp, 1, none⟩ = some (Value.bool true) := (aH BKP.out 1).trans rfl
        have fp1 := aG BKP.out 1
        have cp2 : w12.cell? ⟨gp, 2, none⟩ = some (Value.int .i64 fu) := (aH BKP.out 2).trans rfl
        have fp2 := aG BKP.out 2
        have cp3 : w12.cell? ⟨gp, 3, none⟩ = some (Value.int .i64 fa) := (aH BKP.out 3).trans rfl
        have fp3 := aG BKP.out 3
        have cb0 : w12.cell? ⟨g6, 0, none⟩ = some (Value.slice none 0 0) := (aH BK6.out 0).trans rfl
        have fb0 := aG BK6.out 0
        have cb1 : w12.cell? ⟨g6, 1, none⟩ = some (Value.bool false) := (aH BK6.out 1).trans rfl
        have fb1 := aG BK6.out 1
        have cb2 : w12.cell? ⟨g6, 2, none⟩ = some (Value.int .i64 0) := (aH BK6.out 2).trans rfl
        have fb2 := aG BK6.out 2
        have cb3 : w12.cell? ⟨g6, 3, none⟩ = some (Value.int .i64 0) := (aH BK6.out 3).trans rfl
        have fb3 := aG BK6.out 3
        go_wp2
        refine bodyPost_ret (fU rfl _ _ g6 27 #[Value.slice A8 (df (i : Int)).length c8, Value.bool true, Value.int .i64 fu, Value.int .i64 fa] (0, 0) _ rfl (wL BK6.out _ _ _ _) Tryz.underlying27 rfl (by kernel_rfl)) rfl ?_
        rw [HE.out]
        exact ⟨_, rfl, R4 HO.out BK6.out (by decide) _ _ _ _, lF HB.out G6.out _ _ _ _⟩
       | false =>
        have HE : aC (R = (l, true, fu, fa, 17)) := ⟨by rw [HRR.out, dF, if_pos HOK.out, if_neg (by decide), ← HI.out, ← HBE.out, ← HRF.out, if_pos rfl, if_neg hf0, if_pos HU0.out, if_neg (by decide), if_neg hfp]⟩
        go_wp2
        refine bodyPost_ret (fU rfl _ _ g6 27 #[Value.slice A7 l.length c7, Value.bool true, Value.int .i64 fu, Value.int .i64 fa] (0, 0) _ rfl (wL (dO (p := ⟨gp, 1, none⟩) BK6.out N6P.out (Value.bool true)) _ _ _ _) Tryz.underlying27 rfl (by kernel_rfl)) rfl ?_
        rw [HE.out]
        exact ⟨_, rfl, R4 (R1 (j := 1) HO.out BKP.out (by decide) (Value.bool true)) (dO (p := ⟨gp, 1, none⟩) BK6.out N6P.out (Value.bool true)) (by decide) _ _ _ _, lF (bM (j := 1) (v := Value.bool true) HB.out GP.out) G6.out _ _ _ _⟩
      ·have hu1 : (fu == 0) = false := by simpa using hu0
       by_cases hup : 0 < fu
       ·have hud : decide (0 < fu) = true := by simpa using hup
        have HE : aC (R = (df (i : Int), false, wrap64 (fu - 1), fa, 0)) := ⟨by rw [HRR.out, dF, if_pos HOK.out, if_neg (by decide), ← HI.out, ← HBE.out, ← HRF.out, if_pos rfl, if_neg hf0, if_neg hu0, if_pos hup, if_neg hfp]⟩
        have hKd := HKd.out
        go_wp2_with fail
        rw [hKd _ _, Oper.upon_enter]
        clear hKd
        have k0 := (dO (p := ⟨gp, 2, none⟩) BK6.out N6P.out (Value.int .i64 (wrap64 (fu - 1))))
        have k1 := (bM (j := 2) (v := Value.int .i64 (wrap64 (fu - 1))) HB.out GP.out)
        refine ((Hdo.out (w10.setCell ⟨gp, 2, none⟩ (Value.int .i64 (wrap64 (fu - 1)))) i b _ _ _ (uG.vC (fA.PG (fA.of_below H6.out gp none) 2 (Value.int .i64 (wrap64 (fu - 1))))) hil hib.out HRF.out.symm (fQ (cs' := #[Value.slice A7 l.length c7, Value.bool false, Value.int .i64 (wrap64 (fu - 1)), Value.int .i64 fa]) BKP.out 2 (Value.int .i64 (wrap64 (fu - 1))) rfl) (R1 (j := 2) HO.out BKP.out (by decide) (Value.int .i64 (wrap64 (fu - 1))))).mono ?_)
        rintro e w12 ⟨rfl, v', hp', ho', hb', h24⟩
        obtain ⟨A8, c8, e8⟩ := Kd.dZ ho'
        subst e8
        have n0_ := aC.mk (k1.trans hb'); have n1_ := aC.mk (h24 g6 _ k0); have n2_ := aC.mk hp'; have n3_ := aC.mk ho'
        clear BK3 BKP BKC BK6 HB HO H6 k0 k1 hp' ho' hb' h24; clear ca0 fa0 ca1 fa1 ca2 fa2 ca3 fa3; clear cb0 fb0 cb1 fb1 cb2 fb2 cb3 fb3; clear cp0 fp0 cp1 fp1 cp2 fp2 cp3 fp3; clear cc0 fc0 cc1 fc1 cc2 fc2
        have HB := n0_; have BK6 := n1_; have BKP := n2_; have HO := n3_; clear n0_ n1_ n2_ n3_
        have cp0 : w12.cell? ⟨gp, 0, none⟩ = some (Value.slice A8 (df (i : Int)).length c8) := (aH BKP.out 0).trans rfl
        have fp0 := aG BKP.out 0
        have cp1 : w12.cell? ⟨gp, 1, none⟩ = some (Value.bool false) := (aH BKP.out 1).trans rfl
        have fp1 := aG BKP.out 1
        have cp2 : w12.cell? ⟨gp, 2, none⟩ = some (Value.int .i64 (wrap64 (fu - 1))) := (aH BKP.out 2).trans rfl
        have fp2 := aG BKP.out 2
        have cp3 : w12.cell? ⟨gp, 3, none⟩ = some (Value.int .i64 fa) := (aH BKP.out 3).trans rfl
        have fp3 := aG BKP.out 3
        have cb0 : w12.cell? ⟨g6, 0, none⟩ = some (Value.slice none 0 0) := (aH BK6.out 0).trans rfl
        have fb0 := aG BK6.out 0
        have cb1 : w12.cell? ⟨g6, 1, none⟩ = some (Value.bool false) := (aH BK6.out 1).trans rfl
        have fb1 := aG BK6.out 1
        have cb2 : w12.cell? ⟨g6, 2, none⟩ = some (Value.int .i64 0) := (aH BK6.out 2).trans rfl
        have fb2 := aG BK6.out 2
        have cb3 : w12.cell? ⟨g6, 3, none⟩ = some (Value.int .i64 0) := (aH BK6.out 3).trans rfl
        have fb3 := aG BK6.out 3
        go_wp2
        refine bodyPost_ret (fU rfl _ _ g6 27 #[Value.slice A8 (df (i : Int)).length c8, Value.bool false, Value.int .i64 (wrap64 (fu - 1)), Value.int .i64 fa] (0, 0) _ rfl (wL BK6.out _ _ _ _) Tryz.underlying27 rfl (by kernel_rfl)) rfl ?_
        rw [HE.out]
        exact ⟨_, rfl, R4 HO.out BK6.out (by decide) _ _ _ _, lF HB.out G6.out _ _ _ _⟩
       ·have hud : decide (0 < fu) = false := by simpa using hup
        have HE : aC (R = (df (i : Int), false, fu, fa, 0)) := ⟨by rw [HRR.out, dF, if_pos HOK.out, if_neg (by decide), ← HI.out, ← HBE.out, ← HRF.out, if_pos rfl, if_neg hf0, if_neg hu0, if_neg hup, if_neg hfp]⟩
        have hKd := HKd.out
        go_wp2_with fail
        rw [hKd _ _, Oper.upon_enter]
        clear hKd
        have k0 := BK6.out
        have k1 := HB.out
        refine ((Hdo.out w10 i b _ _ _ (uG.vC (fA.of_below H6.out gp none)) hil hib.out HRF.out.symm (BKP.out) HO.out).mono ?_)
        rintro e w12 ⟨rfl, v', hp', ho', hb', h24⟩
        obtain ⟨A8, c8, e8⟩ := Kd.dZ ho'
        subst e8
        have n0_ := aC.mk (k1.trans hb'); have n1_ := aC.mk (h24 g6 _ k0); have n2_ := aC.mk hp'; have n3_ := aC.mk ho'
        clear BK3 BKP BKC BK6 HB HO H6 k0 k1 hp' ho' hb' h24; clear ca0 fa0 ca1 fa1 ca2 fa2 ca3 fa3; clear cb0 fb0 cb1 fb1 cb2 fb2 cb3 fb3; clear cp0 fp0 cp1 fp1 cp2 fp2 cp3 fp3; clear cc0 fc0 cc1 fc1 cc2 fc2
        have HB := n0_; have BK6 := n1_; have BKP := n2_; have HO := n3_; clear n0_ n1_ n2_ n3_
        have cp0 : w12.cell? ⟨gp, 0, none⟩ = some (Value.slice A8 (df (i : Int)).length c8) := (aH BKP.out 0).trans rfl
        have fp0 := aG BKP.out 0
        have cp1 : w12.cell? ⟨gp, 1, none⟩ = some (Value.bool false) := (aH BKP.out 1).trans rfl
        have fp1 := aG BKP.out 1
        have cp2 : w12.cell? ⟨gp, 2, none⟩ = some (Value.int .i64 fu) := (aH BKP.out 2).trans rfl
        have fp2 := aG BKP.out 2
        have cp3 : w12.cell? ⟨gp, 3, none⟩ = some (Value.int .i64 fa) := (aH BKP.out 3).trans rfl
        have fp3 := aG BKP.out 3
        have cb0 : w12.cell? ⟨g6, 0, none⟩ = some (Value.slice none 0 0) := (aH BK6.out 0).trans rfl
        have fb0 := aG BK6.out 0
        have cb1 : w12.cell? ⟨g6, 1, none⟩ = some (Value.bool false) := (aH BK6.out 1).trans rfl
        have fb1 := aG BK6.out 1
        have cb2 : w12.cell? ⟨g6, 2, none⟩ = some (Value.int .i64 0) := (aH BK6.out 2).trans rfl
        have fb2 := aG BK6.out 2
        have cb3 : w12.cell? ⟨g6, 3, none⟩ = some (Value.int .i64 0) := (aH BK6.out 3).trans rfl
        have fb3 := aG BK6.out 3
        go_wp2
        refine bodyPost_ret (fU rfl _ _ g6 27 #[Value.slice A8 (df (i : Int)).length c8, Value.bool false, Value.int .i64 fu, Value.int .i64 fa] (0, 0) _ rfl (wL BK6.out _ _ _ _) Tryz.underlying27 rfl (by kernel_rfl)) rfl ?_
        rw [HE.out]
        exact ⟨_, rfl, R4 HO.out BK6.out (by decide) _ _ _ _, lF HB.out G6.out _ _ _ _⟩
   ·have HE : aC (R = (l, false, fu, fa, r)) := ⟨by
     rw [HRR.out, dF, if_pos HOK.out, if_neg (by decide), ← HI.out, ← HBE.out, ← HRF.out, if_neg hr0]⟩
    have hr1 : (r != 0) = true := by simpa using hr0
    clear hr0
    go_wp2
    refine bodyPost_ret (fU rfl _ _ g6 27 #[Value.slice A7 l.length c7, Value.bool false, Value.int .i64 fu, Value.int .i64 fa] (0, 0) _ rfl (wL BK6.out _ _ _ _) Tryz.underlying27 rfl (by kernel_rfl)) rfl ?_
    rw [HE.out]
    exact ⟨_, rfl, R4 HO.out BK6.out (by decide) _ _ _ _, lF HB.out G6.out _ _ _ _⟩
 ·refine ((dW.calls A c l dn fu fa 6 w2 (Kd.fK HR.out HB.out) hc (by rw [dW.f, if_neg hok])).mono ?_)
  rintro e w3 ⟨rfl, hb⟩
  have n0_ := aC.mk (bF HB.out hb); have n1_ := aC.mk (bG BK3.out hb); have n2_ := aC.mk (bG BK6.out hb)
  clear HB BK3 BK6 qcV qcW qcX qcY; have HB := n0_; have BK3 := n1_; have BK6 := n2_; clear n0_ n1_ n2_ hb
  have cb0 : w3.cell? ⟨g6, 0, none⟩ = some (Value.slice none 0 0) := (aH BK6.out 0).trans rfl
  have fb0 := aG BK6.out 0
  have cb1 : w3.cell? ⟨g6, 1, none⟩ = some (Value.bool false) := (aH BK6.out 1).trans rfl
  have fb1 := aG BK6.out 1
  have cb2 : w3.cell? ⟨g6, 2, none⟩ = some (Value.int .i64 0) := (aH BK6.out 2).trans rfl
  have fb2 := aG BK6.out 2
  have cb3 : w3.cell? ⟨g6, 3, none⟩ = some (Value.int .i64 0) := (aH BK6.out 3).trans rfl
  have fb3 := aG BK6.out 3
  have HE : aC (R = ([], false, 0, 0, 6)) := ⟨by rw [HRR.out, dF, if_neg hok]⟩
  clear hok
  go_wp2_with fail
  refine bodyPost_ret (fU rfl _ _ g6 27 #[.slice none 0 0, .bool false, .int .i64 0, .int .i64 0] (0, 0) _ rfl (wL BK6.out _ _ _ _) Tryz.underlying27 rfl (by kernel_rfl)) rfl ?_
  rw [HE.out]
  exact ⟨_, rfl, Kd.CB _ _ _ _ _, lF HB.out G6.out _ _ _ _⟩
def cells3 (x : S67) : List Value := [.string x.f0, .string x.f1, .int .i64 x.f2]
def cellsOf (l : List S67) : List Value := l.flatMap cells3
theorem bZ (x : S67) (l : List S67) : cellsOf (x :: l) = .string x.f0 :: .string x.f1 :: .int .i64 x.f2 :: cellsOf l := rfl
theorem o7 (a b : List S67) : cellsOf (a ++ b) = cellsOf a ++ cellsOf b := by simp [cellsOf]
theorem cellsOf_length : ∀ l : List S67, (cellsOf l).length = l.length * 3
 | [] => rfl
 | x :: l => by rw [bZ]; simp only [List.length_cons]; rw [cellsOf_length l]; omega
theorem jR : ∀ (l : List S67) (i : Nat), cellsOf (l.take i) = (cellsOf l).take (i * 3)
 | [], i => by simp [cellsOf]
 | x :: l, 0 => by simp [cellsOf]
 | x :: l, i + 1 => by
  rw [List.take_succ_cons, bZ, bZ, jR l i, show (i + 1) * 3 = i * 3 + 1 + 1 + 1 by omega]
  simp only [List.take_succ_cons]
theorem kL : ∀ (l : List S67) (i : Nat), cellsOf (l.drop i) = (cellsOf l).drop (i * 3)
 | [], i => by simp [cellsOf]
 | x :: l, 0 => by simp
 | x :: l, i + 1 => by
  rw [List.drop_succ_cons, bZ, kL l i, show (i + 1) * 3 = i * 3 + 1 + 1 + 1 by omega]
  simp only [List.drop_succ_cons]
theorem lS : ∀ (l : List S67) (i : Nat) (x : S67) (u : ByteArray), l[i]? = some x → (cellsOf l).set (i * 3 + 1) (.string u) = cellsOf (l.set i ⟨x.f0, u, x.f2⟩)
 | [], i, x, u, h => by simp at h
 | y :: l, 0, x, u, h => by
  obtain rfl : y = x := by simpa using h
  simp [bZ]
 | y :: l, i + 1, x, u, h => by
  show _ = cellsOf (y :: l.set i _)
  rw [bZ, bZ, ← lS l i x u (by simpa using h), show (i + 1) * 3 + 1 = i * 3 + 1 + 1 + 1 + 1 by omega]
  simp only [zS]
theorem jS : ∀ (l : List S67) (i : Nat) (x : S67) (u : Int), l[i]? = some x → (cellsOf l).set (i * 3 + 2) (.int .i64 u) = cellsOf (l.set i ⟨x.f0, x.f1, u⟩)
 | [], i, x, u, h => by simp at h
 | y :: l, 0, x, u, h => by
  obtain rfl : y = x := by simpa using h
  simp [bZ]
 | y :: l, i + 1, x, u, h => by
  show _ = cellsOf (y :: l.set i _)
  rw [bZ, bZ, ← jS l i x u (by simpa using h), show (i + 1) * 3 + 2 = i * 3 + 2 + 1 + 1 + 1 by omega]
  simp only [zS]
theorem jD : ∀ (l : List S67) (i : Nat) (x : S67), l[i]? = some x → (cellsOf l)[i * 3]? = some (.string x.f0) ∧ (cellsOf l)[i * 3 + 1]? = some (.string x.f1) ∧ (cellsOf l)[i * 3 + 2]? = some (.int .i64 x.f2)
 | [], i, x, h => by simp at h
 | y :: l, 0, x, h => by
  obtain rfl : y = x := by simpa using h
  simp [bZ]
 | y :: l, i + 1, x, h => by
  have ih := jD l i x (by simpa using h)
  rw [bZ, show (i + 1) * 3 = i * 3 + 1 + 1 + 1 by omega]
  simp only [List.getElem?_cons_succ]
  exact ih
theorem qK (l : List S67) : ∀ u ∈ cellsOf l, u.oneCell' = true := by
 intro u hu
 simp only [cellsOf, List.mem_flatMap, cells3] at hu
 obtain ⟨x, _, hx⟩ := hu
 simp only [List.mem_cons, List.not_mem_nil, or_false] at hx
 rcases hx with rfl | rfl | rfl <;> rfl
theorem add_plain' (g k j : Nat) : (⟨g, k, none⟩ : Addr).add j = ⟨g, k + j, none⟩ := by unfold Addr.add; split <;> simp_all
theorem AB (w : World) (base : Nat) (ok : Nat → Prop) : ∀ l : List S67, fF (k67.M w base ok) 3 l (cellsOf l) := by
 intro l
 refine ⟨cellsOf_length l, fun j p hj => ?_⟩
 rw [← kL, show ((3 : Nat)) = 1 * 3 from rfl, ← jR]
 have hlt : j < l.length := (List.getElem?_eq_some_iff.1 hj).1
 have e : (l.drop j).take 1 = [p] := by
  rw [List.drop_eq_getElem_cons hlt]
  have := (List.getElem?_eq_some_iff.1 hj).2
  simp [this]
 rw [e]
 exact xW w base ok p
theorem AL {w : World} {base : Nat} {ok : Nat → Prop} : ∀ {l : List S67} {cs : List Value}, fF (k67.M w base ok) 3 l cs → cs = cellsOf l := by
 intro l
 induction l with
 | nil =>
  intro cs h
  have := h.1
  simp at this
  rw [this]; rfl
 | cons x l ih =>
  intro cs h
  have h0 := KU (h.2 0 x rfl)
  simp only [Nat.zero_mul, List.drop_zero] at h0
  have hl := h.1
  simp only [List.length_cons] at hl
  have h1 : fF (k67.M w base ok) 3 l (cs.drop 3) := by
   refine ⟨by rw [List.length_drop]; omega, fun j p hj => ?_⟩
   have := h.2 (j + 1) p (by simpa using hj)
   rw [List.drop_drop, show 3 + j * 3 = (j + 1) * 3 by omega]
   exact this
  rw [bZ, ← ih h1]
  have e : cs = cs.take 3 ++ cs.drop 3 := (List.take_append_drop 3 cs).symm
  rw [h0] at e
  exact e
theorem rV {w : World} {base : Nat} {ok : Nat → Prop} {v : Value} {l : List S67} (h : Kd.R k67 67 w base ok v l) : w.ownsRow base 67 3 v l.length (cellsOf l) := by
 obtain ⟨_, inner, ho, hr⟩ := h
 rw [← AL hr]
 exact ho
theorem l9 {w : World} {base : Nat} {v : Value} {l : List S67} (h : w.ownsRow base 67 3 v l.length (cellsOf l)) : Kd.R k67 67 w base (fun _ => True) v l :=
 ⟨fun _ _ => trivial, cellsOf l, h, AB _ _ _ l⟩
theorem lT {w : World} {base : Nat} {ok : Nat → Prop} {A : Option Addr} {n c : Nat} {l : List S67} (h : Kd.R k67 67 w base ok (.slice A n c) l) (hne : 0 < l.length) :
  ∃ g cur, A = some ⟨g, 0, none⟩ ∧ n = l.length ∧ base ≤ g ∧ w.heap[g]? = some (.cells cur 67 (0, 0)) ∧ l.length ≤ c ∧ c ≤ maxLen ∧ cur.size = c * 3 ∧ cur.toList.take (l.length * 3) = cellsOf l := by
 obtain ⟨_, h2 | ⟨g, cap, cur, he, hb, hh, h3, h4, h5, h6⟩⟩ := rV h
 ·omega
 ·injection he with e1 e2 e3
  subst e1 e2 e3
  exact ⟨g, cur, rfl, rfl, hb, hh, h3, h4, h5, h6⟩
theorem kG {w : World} {g : Nat} {cur : Array Value} {l : List S67} {j : Nat} {u : Value} (hh : w.heap[g]? = some (.cells cur 67 (0, 0))) (h6 : cur.toList.take (l.length * 3) = cellsOf l) (hj : (cellsOf l)[j]? = some u) :
  w.cell? ⟨g, j, none⟩ = some u := by
 have hlt : j < l.length * 3 := by
  have := (List.getElem?_eq_some_iff.1 hj).1
  rwa [cellsOf_length] at this
 rw [aH hh]
 rw [← h6, List.getElem?_take_of_lt hlt] at hj
 rw [← hj]
 simp
theorem G9 {w : World} {base g c j : Nat} {l l' : List S67} {u : Value} (h : Kd.R k67 67 w base (fun _ => True) (.slice (some ⟨g, 0, none⟩) l.length c) l) (hl : l'.length = l.length) (he : (cellsOf l).set j u = cellsOf l') (hj : j < l.length * 3) :
  Kd.R k67 67 (w.setCell ⟨g, j, none⟩ u) base (fun _ => True) (.slice (some ⟨g, 0, none⟩) l'.length c) l' := by
 obtain ⟨g', cur, hg, _, hb, hh, h3, h4, h5, h6⟩ := lT h (by omega)
 injection hg with hg
 injection hg with hg
 subst hg
 refine l9 ⟨by rw [cellsOf_length], .inr ⟨g, c, cur.setIfInBounds j u, rfl, hb, BZ hh j u, by omega, h4, by simpa using h5, ?_⟩⟩
 rw [← he, ← h6, hl]
 simp [List.take_set]
theorem oO (i : Int) (b : Bool) (w : World) : Calls Tryz.prog 160 #[.int .i64 i, .bool b] w fun e w' => e = .returned (.int .i64 (if b = true then 0 else 7)) ∧ w = w' := by
 cases b
 ·go_enter Tryz.func160, Tryz.ntmps160
  go_wp2
  go_ret
  exact ⟨rfl, rfl⟩
 ·go_enter Tryz.func160, Tryz.ntmps160
  go_wp2
  go_ret
  exact ⟨rfl, rfl⟩
theorem P5 : Enters 160 := fun args w => jO Tryz.func160 (by kernel_rfl) (by kernel_rfl) args w
def P6 (w : World) (base gp : Nat) (v : Value) (l : List S67) (dn : Bool) (fu fa : Int) : Prop :=
 w.heap[gp]? = some (.cells #[v, .bool dn, .int .i64 fu, .int .i64 fa] 211 (0, 0)) ∧ Kd.R k67 67 w base (fun _ => True) v l
def Done (w : World) (base gp : Nat) (dn : Bool) (fu fa : Int) (l' : List S67) (e : Ending) (w4 : World) : Prop :=
 e = .returned (.tuple #[]) ∧ ∃ v' : Value, w4.heap[gp]? = some (.cells #[v', .bool dn, .int .i64 fu, .int .i64 fa] 211 (0, 0)) ∧ Kd.R k67 67 w4 base (fun _ => True) v' l' ∧ Below base w w4 ∧
  ∀ (k : Nat) (cs : Array Value), w.heap[k]? = some (.cells cs 27 (0, 0)) → w4.heap[k]? = some (.cells cs 27 (0, 0))
theorem gW {w : World} {g g' t t' : Nat} {cs cs' : Array Value} (h : w.heap[g]? = some (.cells cs t (0, 0))) (h' : w.heap[g']? = some (.cells cs' t' (0, 0))) (ht : t ≠ t') : g ≠ g' := qdf h h' ht
theorem uH {l : List S67} {i : Nat} (h : i < l.length) : ∃ x, l[i]? = some x := ⟨l[i], List.getElem?_eq_getElem h⟩
theorem new1 (w : World) (o o' : Obj) : ((w.alloc o).alloc o').heap[w.heap.size]? = some o := bC (jV w o) o'
theorem new2 (w : World) (o o' : Obj) : ((w.alloc o).alloc o').heap[w.heap.size + 1]? = some o' := by
 have h := jV (w.alloc o) o'
 have e : (w.alloc o).heap.size = w.heap.size + 1 := by
  show (w.heap.push _).size = _
  simp
 rwa [e] at h
theorem KZ (w : World) (o o' o'' : Obj) : (((w.alloc o).alloc o').alloc o'').heap[w.heap.size]? = some o := bC (new1 w o o') o''
theorem LC (w : World) (o o' o'' : Obj) : (((w.alloc o).alloc o').alloc o'').heap[w.heap.size + 1]? = some o' := bC (new2 w o o') o''
theorem qaF (w : World) (o o' o'' : Obj) : (((w.alloc o).alloc o').alloc o'').heap[w.heap.size + 2]? = some o'' := by
 have h := new2 (w.alloc o) o' o''
 have e : (w.alloc o).heap.size = w.heap.size + 1 := by
  show (w.heap.push _).size = _
  simp
 rwa [e] at h
theorem Y0 {w : World} {g t : Nat} {cs cs' : Array Value} (h : w.heap[g]? = some (.cells cs 179 (0, 0))) (ht : t ≠ 179) : ¬ w.heap[g]? = some (.cells cs' t (0, 0)) := by
 rw [h]
 intro e
 injection e with e
 injection e with _ e
 exact ht e.symm
theorem qaG : Enters 177 := fun args w => jO Tryz.func177 (by kernel_rfl) (by kernel_rfl) args w
set_option maxHeartbeats 4000000 in
theorem qbU (gp b1 : Nat) (w : World) (base : Nat) (l : List S67) (A : Option Addr) (c : Nat) (dn : Bool) (fu fa : Int) (i : Nat) (x : S67) (hx : l[i]? = some x) (hb1 : w.heap[b1]? = some (.cells #[.pointer (some ⟨gp, 0, none⟩)] 176 (0, 0)))
  (hp : P6 w base gp (.slice A l.length c) l dn fu fa) :
  Calls Tryz.prog 177 #[.int .i64 (i : Int), .pointer (some ⟨b1, 0, none⟩)] w (Done w base gp dn fu fa (l.set i ⟨x.f0, x.f1, (x.f1.size : Int)⟩)) := by
 obtain ⟨hp, ho⟩ := hp
 have hlt : i < l.length := (List.getElem?_eq_some_iff.1 hx).1
 obtain ⟨g, cur, rfl, _, hg, hh, h3, h4, h5, h6⟩ := lT ho (by omega)
 obtain ⟨e0, e1, e2⟩ := jD l i x hx
 have s1 : w.cell? ⟨b1, 0, none⟩ = some (.pointer (some ⟨gp, 0, none⟩)) := (aH hb1 0).trans rfl
 have s2 : w.cell? ⟨gp, 0, none⟩ = some (.slice (some ⟨g, 0, none⟩) l.length c) := (aH hp 0).trans rfl
 have s3 : w.cell? ⟨g, i * 3 + 1, none⟩ = some (.string x.f1) := kG hh h6 e1
 have s4 : w.cell? ⟨g, i * 3 + 2, none⟩ = some (.int .i64 x.f2) := kG hh h6 e2
 have s5 := aG hh (i * 3 + 2)
 have ngp : g ≠ gp := gW hh hp (by decide)
 have HX := aC.mk hx
 have HO := aC.mk ho
 have HP := aC.mk hp
 have HH := aC.mk hh
 have NGP := aC.mk ngp
 have HG := aC.mk hg
 have hi0 : (0 : Int) ≤ (i : Int) := by omega
 have hi1 : (i : Int) < (l.length : Int) := by omega
 clear hx ho hp hh ngp h3 h4 h5 h6 e0 e1 e2 hb1 hg
 go_enter Tryz.func177, Tryz.ntmps177
 go_wp2
 refine fO (n := 19) (S := fun w' => w'.cell? ⟨b1, 0, none⟩ = some (.pointer (some ⟨gp, 0, none⟩)) ∧ w'.cell? ⟨gp, 0, none⟩ = some (.slice (some ⟨g, 0, none⟩) l.length c) ∧ w'.cell? ⟨g, i * 3 + 1, none⟩ = some (.string x.f1)) (ds := [18]) #[false, false, false, false, false, false, false, false, false, false, false, false, false, false, false, false, false, false, false] (by kernel_rfl) rfl rfl ⟨s1, s2, s3⟩ (fun hHeld => ?_)
 refine puS (i := 5) (N := some 8) (v := ?_) (a' := ?_) rfl rfl (by kernel_rfl) (fun _ _ _ h => h) (Or.inl ⟨by rfl, ?_⟩) ?_ ?_
 rotate_left
 ·intro w'
  go_simp
  with_reducible rfl
 rotate_left
 ·simp only [Act.put, zA, zZ, zS, aI, aJ]
  rfl
 refine puS (i := 11) (N := some 14) (v := ?_) (a' := ?_) rfl rfl (by kernel_rfl) (fun _ _ _ h => h) (Or.inl ⟨by rfl, ?_⟩) ?_ ?_
 rotate_left
 ·intro w'
  go_simp
  with_reducible rfl
 rotate_left
 ·simp only [Act.put, zA, zZ, zS, aI, aJ]
  rfl
 refine tkS (i := 0) (N := some 3) (v := ?_) (a' := ?_) rfl rfl (by kernel_rfl) (fun _ _ _ h => h) (Or.inl ⟨by rfl, ?_⟩) hHeld ?_ ?_
 rotate_left
 ·rintro w' ⟨s0, s1, s2⟩
  go_simp
  with_reducible rfl
 rotate_left
 ·simp only [Act.put, zA, zZ, zS, aI, aJ]
  rfl
 refine puS (i := 1) (N := some 4) (v := ?_) (a' := ?_) rfl rfl (by kernel_rfl) (fun _ _ _ h => h) (Or.inl ⟨by rfl, ?_⟩) ?_ ?_
 rotate_left
 ·intro w'
  go_simp
  with_reducible rfl
 rotate_left
 ·simp only [Act.put, zA, zZ, zS, aI, aJ]
  rfl
 refine puS (i := 2) (N := some 5) (v := ?_) (a' := ?_) rfl rfl (by kernel_rfl) (fun _ _ _ h => h) (Or.inl ⟨by rfl, ?_⟩) ?_ ?_
 rotate_left
 ·intro w'
  go_simp
  with_reducible rfl
 rotate_left
 ·simp only [Act.put, zA, zZ, zS, aI, aJ]
  rfl
 refine puS (i := 3) (N := some 6) (v := ?_) (a' := ?_) rfl rfl (by kernel_rfl) (fun _ _ _ h => h) (Or.inl ⟨by rfl, ?_⟩) ?_ ?_
 rotate_left
 ·intro w'
  go_simp
  with_reducible rfl
 rotate_left
 ·simp only [Act.put, zA, zZ, zS, aI, aJ]
  rfl
 refine tkS (i := 4) (N := some 7) (v := ?_) (a' := ?_) rfl rfl (by kernel_rfl) (fun _ _ _ h => h) (Or.inl ⟨by rfl, ?_⟩) hHeld ?_ ?_
 rotate_left
 ·rintro w' ⟨s0, s1, s2⟩
  go_simp
  with_reducible rfl
 rotate_left
 ·simp only [Act.put, zA, zZ, zS, aI, aJ]
  rfl
 refine tkS (i := 6) (N := some 9) (v := ?_) (a' := ?_) rfl rfl (by kernel_rfl) (fun _ _ _ h => h) (Or.inl ⟨by rfl, ?_⟩) hHeld ?_ ?_
 rotate_left
 ·rintro w' ⟨s0, s1, s2⟩
  go_simp
  with_reducible rfl
 rotate_left
 ·simp only [Act.put, zA, zZ, zS, aI, aJ]
  rfl
 refine puS (i := 7) (N := some 10) (v := ?_) (a' := ?_) rfl rfl (by kernel_rfl) (fun _ _ _ h => h) (Or.inl ⟨by rfl, ?_⟩) ?_ ?_
 rotate_left
 ·intro w'
  go_simp
  with_reducible rfl
 rotate_left
 ·simp only [Act.put, zA, zZ, zS, aI, aJ]
  rfl
 refine puS (i := 8) (N := some 11) (v := ?_) (a' := ?_) rfl rfl (by kernel_rfl) (fun _ _ _ h => h) (Or.inl ⟨by rfl, ?_⟩) ?_ ?_
 rotate_left
 ·intro w'
  go_simp
  with_reducible rfl
 rotate_left
 ·simp only [Act.put, zA, zZ, zS, aI, aJ]
  rfl
 refine puS (i := 9) (N := some 12) (v := ?_) (a' := ?_) rfl rfl (by kernel_rfl) (fun _ _ _ h => h) (Or.inl ⟨by rfl, ?_⟩) ?_ ?_
 rotate_left
 ·intro w'
  go_simp
  with_reducible rfl
 rotate_left
 ·simp only [Act.put, zA, zZ, zS, aI, aJ]
  rfl
 refine tkS (i := 10) (N := some 13) (v := ?_) (a' := ?_) rfl rfl (by kernel_rfl) (fun _ _ _ h => h) (Or.inl ⟨by rfl, ?_⟩) hHeld ?_ ?_
 rotate_left
 ·rintro w' ⟨s0, s1, s2⟩
  go_simp
  with_reducible rfl
 rotate_left
 ·simp only [Act.put, zA, zZ, zS, aI, aJ]
  rfl
 refine puS (i := 12) (N := some 15) (v := ?_) (a' := ?_) rfl rfl (by kernel_rfl) (fun _ _ _ h => h) (Or.inl ⟨by rfl, ?_⟩) ?_ ?_
 rotate_left
 ·intro w'
  go_simp
  with_reducible rfl
 rotate_left
 ·simp only [Act.put, zA, zZ, zS, aI, aJ]
  rfl
 refine puS (i := 13) (N := some 16) (v := ?_) (a' := ?_) rfl rfl (by kernel_rfl) (fun _ _ _ h => h) (Or.inl ⟨by rfl, ?_⟩) ?_ ?_
 rotate_left
 ·intro w'
  go_simp
  with_reducible rfl
 rotate_left
 ·simp only [Act.put, zA, zZ, zS, aI, aJ]
  rfl
 refine tkS (i := 14) (N := some 17) (v := ?_) (a' := ?_) rfl rfl (by kernel_rfl) (fun _ _ _ h => h) (Or.inl ⟨by rfl, ?_⟩) hHeld ?_ ?_
 rotate_left
 ·rintro w' ⟨s0, s1, s2⟩
  go_simp
  with_reducible rfl
 rotate_left
 ·simp only [Act.put, zA, zZ, zS, aI, aJ]
  rfl
 refine puS (i := 15) (N := some 18) (v := ?_) (a' := ?_) rfl rfl (by kernel_rfl) (fun _ _ _ h => h) (Or.inl ⟨by rfl, ?_⟩) ?_ ?_
 rotate_left
 ·intro w'
  go_simp
  with_reducible rfl
 rotate_left
 ·simp only [Act.put, zA, zZ, zS, aI, aJ]
  rfl
 refine puS (i := 16) (N := some 19) (v := ?_) (a' := ?_) rfl rfl (by kernel_rfl) (fun _ _ _ h => h) (Or.inl ⟨by rfl, ?_⟩) ?_ ?_
 rotate_left
 ·intro w'
  go_simp
  with_reducible rfl
 rotate_left
 ·simp only [Act.put, zA, zZ, zS, aI, aJ]
  rfl
 refine puS (i := 17) (N := some 20) (v := ?_) (a' := ?_) rfl rfl (by kernel_rfl) (fun _ _ _ h => h) (Or.inl ⟨by rfl, ?_⟩) ?_ ?_
 rotate_left
 ·intro w'
  go_simp
  with_reducible rfl
 rotate_left
 ·simp only [Act.put, zA, zZ, zS, aI, aJ]
  rfl
 refine laS (i := 18) (N := none) rfl rfl (by kernel_rfl) (by decide) (fun K hK => ?_)
 refine wG (w1 := ?_) (by rfl) rfl ?_ ?_
 rotate_left
 ·go_simp
  rfl
 refine hK.out _ _ ?_
 clear hK K
 refine iT (by kernel_rfl) ?_
 go_end0
 refine ⟨rfl, .slice (some ⟨g, 0, none⟩) l.length c, bQ (dO (p := ⟨g, i * 3 + 2, none⟩) HP.out (fun e => NGP.out e.symm) _), ?_, gI ((Below.refl base w).setCell HG.out _), fun k cs h => bQ (dO (p := ⟨g, i * 3 + 2, none⟩) h (gW h HH.out (by decide)) _)⟩
 have h := G9 (u := .int .i64 (x.f1.size : Int)) HO.out (l' := l.set i ⟨x.f0, x.f1, (x.f1.size : Int)⟩) (by rw [List.length_set]) (jS l i x _ HX.out) (j := i * 3 + 2) (by omega)
 rw [List.length_set] at h
 exact h
set_option maxHeartbeats 4000000 in
theorem qbV (W : World) (l : List S67) (dn : Bool) (fu fa : Int) (sd : Int → List S67) (hsd : ∀ (i : Nat) (x : S67), l[i]? = some x → sd (i : Int) = l.set i ⟨x.f0, x.f1, (x.f1.size : Int)⟩) :
  OfV W 130 #[] l dn fu fa false (fun _ b => if b = true then 0 else 7) sd := by
 intro w1 gp v hb hgp hp ho hok
 obtain ⟨A, c, rfl⟩ := Kd.dZ ho
 have hlt : gp < w1.heap.size := gJ hp
 go_enter Tryz.func130, Tryz.ntmps130
 go_wp2
 refine bodyPost_ret (results_cell_row rfl _ _ (w1.heap.size + 1) 179 #[.func (.func 160) #[] #[], .func (.func 177) #[] #[.pointer (some ⟨w1.heap.size, 0, none⟩)], .bool false] (0, 0) _ rfl (new2 w1 _ _) Tryz.underlying179 rfl (by kernel_rfl)) rfl ?_
 refine ⟨_, _, rfl, aQ (aQ (Below.refl _ _) _) _, ⟨160, #[], rfl, P5, fun w3 i b _ _ _ => fB (by simp) ((oO i b w3).mono ?_)⟩, 177, _, rfl, qaG, fun w3 i b dn fu fa hk hil hib hrf hp3 ho3 => ?_⟩
 ·rintro e w4 ⟨rfl, rfl⟩
  exact ⟨rfl, Below.refl _ _⟩
 ·have hbt : b = true := by
   cases b
   ·simp at hrf
   ·rfl
  obtain ⟨x, hx⟩ := uH (hib hbt)
  refine fB (by simp) ((qbU gp w1.heap.size w3 W.heap.size l A c dn fu fa i x hx (hk _ _ _ (by decide) (by decide) (fun h => by injection h with h; omega) (new1 w1 _ _)) ⟨hp3, ho3⟩).mono fun e w4 h => ?_)
  rw [hsd i x hx]
  exact h
def rfC (name : ByteArray) (n : Nat) (_ : Int) (b : Bool) : Int := if name.toList = [] ∨ 4096 < name.size then 4 else if b = true then 6 else if 64 ≤ n then 8 else 0
theorem qaH : Enters 166 := fun args w => jO Tryz.func166 (by kernel_rfl) (by kernel_rfl) args w
theorem qaI : Enters 167 := fun args w => jO Tryz.func167 (by kernel_rfl) (by kernel_rfl) args w
set_option maxHeartbeats 4000000 in
theorem KN (w : World) (gp b1 b2 : Nat) (name : ByteArray) (A : Option Addr) (n c : Nat) (i : Int) (b : Bool) (hn : n ≤ 9223372036854775807) (hb2 : w.cell? ⟨b2, 0, none⟩ = some (.string name)) (hb1 : w.cell? ⟨b1, 0, none⟩ = some (.pointer (some ⟨gp, 0, none⟩))) (hp : w.cell? ⟨gp, 0, none⟩ = some (.slice A n c)) :
  Calls Tryz.prog 166 #[.int .i64 i, .bool b, .pointer (some ⟨b2, 0, none⟩), .pointer (some ⟨b1, 0, none⟩)] w fun e w' => e = .returned (.int .i64 (rfC name n i b)) ∧ w = w' := by
 obtain ⟨R, hR⟩ : ∃ R, R = rfC name n i b := ⟨_, rfl⟩
 rw [← hR]
 have HR := aC.mk hR
 clear hR
 by_cases h1 : name.toList = []
 ·have HE : aC (R = 4) := ⟨by rw [HR.out, rfC, if_pos (.inl h1)]⟩
  have h1b : name.toList.isEmpty = true := by simp [h1]
  clear h1
  go_enter Tryz.func166, Tryz.ntmps166
  go_wp2
  go_ret
  exact ⟨by rw [HE.out]; rfl, rfl⟩
 ·have h1b : name.toList.isEmpty = false := by simp [h1]
  have h1c : (name.toList == []) = false := by simp [h1]
  by_cases h2 : 4096 < name.size
  ·have HE : aC (R = 4) := ⟨by rw [HR.out, rfC, if_pos (.inr h2)]⟩
   have h2b : decide ((4096 : Int) < (name.size : Int)) = true := by simp; omega
   clear h2
   go_enter Tryz.func166, Tryz.ntmps166
   go_wp2
   go_ret
   exact ⟨by rw [HE.out]; rfl, rfl⟩
  ·have h3 : ¬ (name.toList = [] ∨ 4096 < name.size) := by rintro (h | h) <;> contradiction
   have h2b : decide ((4096 : Int) < (name.size : Int)) = false := by simp; omega
   clear h2
   cases b with
   | true =>
    have HE : aC (R = 6) := ⟨by rw [HR.out, rfC, if_neg h3, if_pos rfl]⟩
    clear h3
    go_enter Tryz.func166, Tryz.ntmps166
    go_wp2
    go_ret
    exact ⟨by rw [HE.out]; rfl, rfl⟩
   | false =>
    by_cases h4 : 64 ≤ n
    ·have HE : aC (R = 8) := ⟨by rw [HR.out, rfC, if_neg h3, if_neg (by decide), if_pos h4]⟩
     have h4b : decide ((64 : Int) ≤ (n : Int)) = true := by simp; omega
     clear h3 h4
     go_enter Tryz.func166, Tryz.ntmps166
     go_wp2
     go_ret
     exact ⟨by rw [HE.out]; rfl, rfl⟩
    ·have HE : aC (R = 0) := ⟨by rw [HR.out, rfC, if_neg h3, if_neg (by decide), if_neg h4]⟩
     have h4b : decide ((64 : Int) ≤ (n : Int)) = false := by simp; omega
     clear h3 h4
     go_enter Tryz.func166, Tryz.ntmps166
     go_wp2
     go_ret
     exact ⟨by rw [HE.out]; rfl, rfl⟩
theorem CS : ∃ i0, Tryz.prog.info? 67 = some i0 ∧ i0.zero = some (.agg #[(.string ⟨#[]⟩), (.string ⟨#[]⟩), (.int .i64 0)]) ∧ i0.size = 3 ∧ i0.bytes = 40 := by
 obtain ⟨i0, hi, hzz⟩ := Option.map_eq_some_iff.1 DZ
 simp only [Prod.mk.injEq] at hzz
 exact ⟨i0, hi, hzz.1, hzz.2.1, hzz.2.2⟩
theorem vG (l : List S67) (i : Nat) (name : ByteArray) : cellsOf (l.take i ++ [(⟨name, ⟨#[]⟩, 0⟩ : S67)]) = (cellsOf l).take (i * 3) ++ [.string name, .string ⟨#[]⟩, .int .i64 0] := by
 rw [o7, jR]
 rfl
theorem MW {w : World} {g i : Nat} {cur : Array Value} {l : List S67} (hh : w.heap[g]? = some (.cells cur 67 (0, 0))) (h6 : cur.toList.take (l.length * 3) = cellsOf l) (hl : l.length ≤ 9223372036854775807) (A' : Option Addr) (hA : i < l.length → A' = some ⟨g, i * 3, none⟩) :
  iO (fun (x : S67) cs => cs = cells3 x) 3 w A' (l.length - i) (l.drop i) := by
 refine ⟨by rw [List.length_drop], by omega, fun h0 => ⟨⟨g, i * 3, none⟩, hA (by omega), fun j p hj => ?_⟩⟩
 rw [List.getElem?_drop] at hj
 obtain ⟨e0, e1, e2⟩ := jD l (i + j) p hj
 refine ⟨cells3 p, rfl, rfl, fun k u hk => ?_⟩
 rw [add_plain', show i * 3 + (j * 3 + k) = (i + j) * 3 + k by omega]
 match k, hk with
 | 0, hk => exact kG hh h6 (by rw [Nat.add_zero, e0]; simpa [cells3] using hk)
 | 1, hk => exact kG hh h6 (by rw [e1]; simpa [cells3] using hk)
 | 2, hk => exact kG hh h6 (by rw [e2]; simpa [cells3] using hk)
 | k + 3, hk => simp [cells3] at hk
theorem P7 {xs : List Value} {n j : Nat} {u : Value} (h : (xs.take n)[j]? = some u) : xs[j]? = some u := by
 rw [List.getElem?_take] at h
 split at h
 ·exact h
 ·cases h
theorem vH {B : Nat} {w W : World} (h : Below B w W) (hB : B ≤ W.heap.size) {o : Obj} : Below B w (W.alloc o) := h.alloc hB o
theorem vI {B : Nat} {w W W2 : World} (h : Below B w W) (hg : W.grownBy W2 none) (hB : B ≤ W.heap.size) : Below B w W2 :=
 ⟨hg.os.trans h.os, hg.tape.trans h.tape, hg.output.trans h.output, Nat.le_trans h.size hg.size, fun k hk => (hg.block k (by omega) (by simp)).trans (h.block k hk)⟩
theorem wB {w w2 : World} {o : Obj} {k t : Nat} {cs : Array Value} (h : w.heap[k]? = some (.cells cs t (0, 0))) (hg : (w.alloc o).drew.grownBy w2 none) : w2.heap[k]? = some (.cells cs t (0, 0)) :=
 KT (bQ (bC h o)) hg (by simp)
theorem oG {w w2 w3 : World} {o : Obj} {k t base : Nat} {cs : Array Value} {v2 : Value} {l2 : List S67} (h : w.heap[k]? = some (.cells cs t (0, 0))) (hg : (w.alloc o).drew.grownBy w2 none) (hR : Kd.R k67 67 w2 base (fun _ => True) v2 l2) (hg3 : w2.grownBy w3 v2.ownBlock) (ht : 67 ≠ t) : w3.heap[k]? = some (.cells cs t (0, 0)) :=
 KT (wB h hg) hg3 (Kd.qgT hR (wB h hg) ht)
set_option maxHeartbeats 8000000 in
theorem Y1 (gp b1 b2 : Nat) (w : World) (base : Nat) (l : List S67) (name : ByteArray) (A : Option Addr) (c : Nat) (dn : Bool) (fu fa : Int) (i : Nat) (hil : i ≤ l.length) (hn : l.length ≤ 64) (hb1 : w.heap[b1]? = some (.cells #[.pointer (some ⟨gp, 0, none⟩)] 176 (0, 0)))
  (hb2 : w.heap[b2]? = some (.cells #[.string name] 9 (0, 0))) (hp : P6 w base gp (.slice A l.length c) l dn fu fa) (hbase : base ≤ w.heap.size) (qaJ : base ≤ gp) :
  Calls Tryz.prog 167 #[.int .i64 (i : Int), .pointer (some ⟨b1, 0, none⟩), .pointer (some ⟨b2, 0, none⟩)] w (Done w base gp dn fu fa (l.take i ++ [(⟨name, ⟨#[]⟩, 0⟩ : S67)] ++ l.drop i)) := by
 obtain ⟨hp, ho⟩ := hp
 obtain ⟨l3, hl3⟩ : ∃ l3, l3 = l.take i ++ [(⟨name, ⟨#[]⟩, 0⟩ : S67)] ++ l.drop i := ⟨_, rfl⟩
 rw [← hl3]
 have HL3 := aC.mk hl3
 clear hl3
 obtain ⟨i0, hi0, hz0, hz1, hz2⟩ := CS
 have HI0 := aC.mk hi0
 have HZ0 := aC.mk hz0
 have HZ1 := aC.mk hz1
 have HZ2 := aC.mk hz2
 clear hi0 hz0 hz1 hz2
 have hcl : l.length ≤ c := by
  obtain ⟨A', c', he, hl, _⟩ := Kd.CG ho
  injection he with _ _ e3
  omega
 have s1 : w.cell? ⟨b1, 0, none⟩ = some (.pointer (some ⟨gp, 0, none⟩)) := (aH hb1 0).trans rfl
 have s2 : w.cell? ⟨gp, 0, none⟩ = some (.slice A l.length c) := (aH hp 0).trans rfl
 have s3 : w.cell? ⟨b2, 0, none⟩ = some (.string name) := (aH hb2 0).trans rfl
 have HO := aC.mk ho
 have HP := aC.mk hp
 have HB1 := aC.mk hb1
 have HB2 := aC.mk hb2
 have q0 : (0 : Int) ≤ (i : Int) := by omega
 have q1 : (i : Int) ≤ (l.length : Int) := by omega
 have q2 : i ≤ c := by omega
 clear ho hp hb1 hb2
 obtain ⟨_, hA | ⟨g, cap, cur, he, hbg, hh, h3, h4, h5, h6⟩⟩ := rV HO.out
 ·obtain ⟨rfl, hl0⟩ : A = none ∧ c = 0 := by
   obtain ⟨h, _⟩ := hA
   injection h with e1 e2 e3
   exact ⟨e1, e3⟩
  have hc0 : c ≤ 0 := by omega
  have hcm : c ≤ 9223372036854775807 := by omega
  clear hl0 hA
  go_enter Tryz.func167, Tryz.ntmps167
  go_wp2
  refine fO (n := 19) (S := fun w' => w'.cell? ⟨b1, 0, none⟩ = some (.pointer (some ⟨gp, 0, none⟩)) ∧ w'.cell? ⟨b2, 0, none⟩ = some (.string name) ∧ w'.cell? ⟨gp, 0, none⟩ = some (.slice none l.length c)) (ds := [18]) #[false, false, false, false, false, false, false, false, false, false, false, false, false, false, false, false, false, false, false] (by kernel_rfl) rfl rfl ⟨s1, s3, s2⟩ (fun hHeld => ?_)
  refine puS (i := 6) (N := some 18) (v := ?_) (a' := ?_) rfl rfl (by kernel_rfl) (fun _ _ _ h => h) (Or.inl ⟨by rfl, ?_⟩) ?_ ?_
  rotate_left
  ·intro w'
   go_simp
   with_reducible rfl
  rotate_left
  ·simp only [Act.put, zA, zZ, zS, aI, aJ]
   rfl
  refine puS (i := 7) (N := some 19) (v := ?_) (a' := ?_) rfl rfl (by kernel_rfl) (fun _ _ _ h => h) (Or.inl ⟨by rfl, ?_⟩) ?_ ?_
  rotate_left
  ·intro w'
   go_simp
   with_reducible rfl
  rotate_left
  ·simp only [Act.put, zA, zZ, zS, aI, aJ]
   rfl
  refine puS (i := 13) (N := some 25) (v := ?_) (a' := ?_) rfl rfl (by kernel_rfl) (fun _ _ _ h => h) (Or.inl ⟨by rfl, ?_⟩) ?_ ?_
  rotate_left
  ·intro w'
   go_simp
   with_reducible rfl
  rotate_left
  ·simp only [Act.put, zA, zZ, zS, aI, aJ]
   rfl
  refine tkS (i := 0) (N := some 12) (v := ?_) (a' := ?_) rfl rfl (by kernel_rfl) (fun _ _ _ h => h) (Or.inl ⟨by rfl, ?_⟩) hHeld ?_ ?_
  rotate_left
  ·rintro w' ⟨s0, s1, s2⟩
   go_simp
   with_reducible rfl
  rotate_left
  ·simp only [Act.put, zA, zZ, zS, aI, aJ]
   rfl
  refine tkS (i := 1) (N := some 13) (v := ?_) (a' := ?_) rfl rfl (by kernel_rfl) (fun _ _ _ h => h) (Or.inl ⟨by rfl, ?_⟩) hHeld ?_ ?_
  rotate_left
  ·rintro w' ⟨s0, s1, s2⟩
   go_simp
   with_reducible rfl
  rotate_left
  ·simp only [Act.put, zA, zZ, zS, aI, aJ]
   rfl
  refine puS (i := 2) (N := some 14) (v := ?_) (a' := ?_) rfl rfl (by kernel_rfl) (fun _ _ _ h => h) (Or.inl ⟨by rfl, ?_⟩) ?_ ?_
  rotate_left
  ·intro w'
   go_simp
   with_reducible rfl
  rotate_left
  ·simp only [Act.put, zA, zZ, zS, aI, aJ]
   rfl
  refine puS (i := 3) (N := some 15) (v := ?_) (a' := ?_) rfl rfl (by kernel_rfl) (fun _ _ _ h => h) (Or.inl ⟨by rfl, ?_⟩) ?_ ?_
  rotate_left
  ·intro w'
   go_simp
   with_reducible rfl
  rotate_left
  ·simp only [Act.put, zA, zZ, zS, aI, aJ]
   rfl
  refine puS (i := 4) (N := some 16) (v := ?_) (a' := ?_) rfl rfl (by kernel_rfl) (fun _ _ _ h => h) (Or.inl ⟨by rfl, ?_⟩) ?_ ?_
  rotate_left
  ·intro w'
   go_simp
   with_reducible rfl
  rotate_left
  ·simp only [Act.put, zA, zZ, zS, aI, aJ]
   rfl
  refine tkS (i := 5) (N := some 17) (v := ?_) (a' := ?_) rfl rfl (by kernel_rfl) (fun _ _ _ h => h) (Or.inl ⟨by rfl, ?_⟩) hHeld ?_ ?_
  rotate_left
  ·rintro w' ⟨s0, s1, s2⟩
   go_simp
   with_reducible rfl
  rotate_left
  ·simp only [Act.put, zA, zZ, zS, aI, aJ]
   rfl
  refine puS (i := 8) (N := some 20) (v := ?_) (a' := ?_) rfl rfl (by kernel_rfl) (fun _ _ _ h => h) (Or.inl ⟨by rfl, ?_⟩) ?_ ?_
  rotate_left
  ·intro w'
   go_simp
   with_reducible rfl
  rotate_left
  ·simp only [Act.put, zA, zZ, zS, aI, aJ]
   rfl
  refine tkS (i := 9) (N := some 21) (v := ?_) (a' := ?_) rfl rfl (by kernel_rfl) (fun _ _ _ h => h) (Or.inl ⟨by rfl, ?_⟩) hHeld ?_ ?_
  rotate_left
  ·rintro w' ⟨s0, s1, s2⟩
   go_simp
   with_reducible rfl
  rotate_left
  ·simp only [Act.put, zA, zZ, zS, aI, aJ]
   rfl
  refine puS (i := 10) (N := some 22) (v := ?_) (a' := ?_) rfl rfl (by kernel_rfl) (fun _ _ _ h => h) (Or.inl ⟨by rfl, ?_⟩) ?_ ?_
  rotate_left
  ·intro w'
   go_simp
   with_reducible rfl
  rotate_left
  ·simp only [Act.put, zA, zZ, zS, aI, aJ]
   rfl
  refine onS (i := 11) (N := some 23) rfl rfl (by kernel_rfl) (by decide) (fun K hK => ?_)
  refine IJ (w1 := ?_) (v := ?_) (by rfl) rfl ?_ ?_
  rotate_left 2
  ·go_simp
   constructor
   ·rfl
   ·rfl
  refine hK.out _ _ ⟨((aH (bC HB1.out _) 0).trans rfl), ((aH (bC HB2.out _) 0).trans rfl), ((aH (bC HP.out _) 0).trans rfl)⟩ (fun hHeld => ?_)
  clear hK K
  refine fE (a' := ?_) ?_ ?_
  rotate_left
  ·show Act.put _ (some 23) _ = _
   simp only [Act.put, zA, zZ, zS, aI, aJ]
   rfl
  refine onS (i := 12) (N := some 24) rfl rfl (by kernel_rfl) (by decide) (fun K hK => ?_)
  refine step_append_grows rfl (.tmp 20) (.tmp 23) 25 rfl 67 i0 _ 3 40 Tryz.underlying25 HI0.out HZ0.out HZ1.out HZ2.out rfl (by decide) none i i ((cellsOf l).take (i * 3)) rfl (fun _ => ⟨by omega, by omega⟩) ?lon ?qef ⟨w.heap.size, 0, none⟩ 1 1 [.string name, .string ⟨#[]⟩, .int .i64 0] rfl rfl ?qeg ?qgY (by omega) (by unfold maxLen; omega) (by omega) ?_
  case lon => rw [List.length_take, cellsOf_length]; omega
  case qef => intro b hb; cases hb
  case qeg =>
   intro j u hj
   match j, hj with
   | 0, hj => simp at hj; subst hj; rw [add_plain]; exact (aH (jV w _) 0).trans rfl
   | 1, hj => simp at hj; subst hj; rw [add_plain]; exact (aH (jV w _) 1).trans rfl
   | 2, hj => simp at hj; subst hj; rw [add_plain]; exact (aH (jV w _) 2).trans rfl
   | j + 3, hj => simp at hj
  case qgY => intro u hu; simp at hu; rcases hu with rfl | rfl | rfl <;> rfl
  intro v2 w2 hown hgr
  rw [← vG l i name] at hown
  have hR2 : Kd.R k67 67 w2 base (fun _ => True) v2 (l.take i ++ [(⟨name, ⟨#[]⟩, 0⟩ : S67)]) := l9 (by
   have hlen : (l.take i ++ [(⟨name, ⟨#[]⟩, 0⟩ : S67)]).length = i + 1 := by rw [List.length_append, List.length_take, List.length_singleton]; omega
   rw [hlen]
   exact uX hown (by simp; omega))
  have HO2 := aC.mk hR2
  have HG2 := aC.mk hgr
  clear hown hgr hR2
  refine hK.out _ _ ⟨((aH (wB HB1.out HG2.out) 0).trans rfl), ((aH (wB HB2.out HG2.out) 0).trans rfl), ((aH (wB HP.out HG2.out) 0).trans rfl)⟩ (fun hHeld => ?_)
  clear hK K
  refine fE (a' := ?_) ?_ ?_
  rotate_left
  ·show Act.put _ (some 24) _ = _
   simp only [Act.put, zA, zZ, zS, aI, aJ]
   rfl
  refine onS (i := 14) (N := some 26) rfl rfl (by kernel_rfl) (by decide) (fun K hK => ?_)
  refine Kd.kJ k67 (w0 := w) (Rr := fun (x : S67) cs => cs = cells3 x) base (by rfl) (.tmp 24) (.tmp 25) 25 67 (.agg #[(.string ⟨#[]⟩), (.string ⟨#[]⟩), (.int .i64 0)]) 40 rfl Tryz.underlying25 DZ rfl (by decide) (by omega) v2 _ (l.drop i) none (l.length - i) (c - i) (fun _ => True) (fun _ => False) rfl rfl HO2.out ?rdn (fun x cs h => by subst h; exact xW _ _ _ x) (fun _ h => h.elim) (fun _ _ => trivial) ?qgZ ?bsn ?bln ?_
  case rdn => exact ⟨by rw [List.length_drop], by omega, fun h => absurd h (by omega)⟩
  case qgZ => exact vI (gI (vH (Below.refl base w) hbase)) HG2.out (by simp; omega)
  case bsn => have := HG2.out.size; simp at this; omega
  case bln => rw [List.length_append, List.length_take, List.length_singleton]; omega
  intro v3 w3 ho3 hb3 hg3 _
  rw [← HL3.out] at ho3
  obtain ⟨A9, c9, rfl⟩ := Kd.dZ ho3
  have HO3 := aC.mk ho3
  have HB3 := aC.mk hb3
  have HG3 := aC.mk hg3
  clear ho3 hb3 hg3
  have hfr := aG (oG HP.out HG2.out HO2.out HG3.out (by decide)) 0
  refine hK.out _ _ ⟨((aH (oG HB1.out HG2.out HO2.out HG3.out (by decide)) 0).trans rfl), ((aH (oG HB2.out HG2.out HO2.out HG3.out (by decide)) 0).trans rfl), ((aH (oG HP.out HG2.out HO2.out HG3.out (by decide)) 0).trans rfl)⟩ (fun hHeld => ?_)
  clear hK K
  refine fE (a' := ?_) ?_ ?_
  rotate_left
  ·show Act.put _ (some 26) _ = _
   simp only [Act.put, zA, zZ, zS, aI, aJ]
   rfl
  refine puS (i := 15) (N := some 27) (v := ?_) (a' := ?_) rfl rfl (by kernel_rfl) (fun _ _ _ h => h) (Or.inl ⟨by rfl, ?_⟩) ?_ ?_
  rotate_left
  ·intro w'
   go_simp
   with_reducible rfl
  rotate_left
  ·simp only [Act.put, zA, zZ, zS, aI, aJ]
   rfl
  refine puS (i := 16) (N := some 28) (v := ?_) (a' := ?_) rfl rfl (by kernel_rfl) (fun _ _ _ h => h) (Or.inl ⟨by rfl, ?_⟩) ?_ ?_
  rotate_left
  ·intro w'
   go_simp
   with_reducible rfl
  rotate_left
  ·simp only [Act.put, zA, zZ, zS, aI, aJ]
   rfl
  refine puS (i := 17) (N := some 29) (v := ?_) (a' := ?_) rfl rfl (by kernel_rfl) (fun _ _ _ h => h) (Or.inl ⟨by rfl, ?_⟩) ?_ ?_
  rotate_left
  ·intro w'
   go_simp
   with_reducible rfl
  rotate_left
  ·simp only [Act.put, zA, zZ, zS, aI, aJ]
   rfl
  refine laS (i := 18) (N := none) rfl rfl (by kernel_rfl) (by decide) (fun K hK => ?_)
  refine wG (w1 := ?_) (by rfl) rfl ?_ ?_
  rotate_left
  ·go_simp
   rfl
  refine hK.out _ _ ?_
  clear hK K
  refine iT (by kernel_rfl) ?_
  go_end0
  refine ⟨rfl, _, fQ (cs := #[.slice none l.length c, .bool dn, .int .i64 fu, .int .i64 fa]) (oG HP.out HG2.out HO2.out HG3.out (by decide)) 0 _ rfl, ?_, HB3.out.setCell ?_ _, fun k cs h => ?_⟩
  ·exact R1 (j := 0) HO3.out (oG HP.out HG2.out HO2.out HG3.out (by decide)) (by decide) _
  ·exact qaJ
  ·exact dO (p := ⟨gp, 0, none⟩) (oG h HG2.out HO2.out HG3.out (by decide)) (gW h HP.out (by decide)) _
 ·injection he with e1 e2 e3
  subst e1 e3
  have HH := aC.mk hh
  have H6 := aC.mk h6
  have hcm : c ≤ 9223372036854775807 := by unfold maxLen at h4; omega
  clear hh h6 h4 h5
  by_cases hci : c = i
  ·have qg0 : i = c := hci.symm
   clear hci
   subst qg0
   go_enter Tryz.func167, Tryz.ntmps167
   go_wp2
   refine fO (n := 19) (S := fun w' => w'.cell? ⟨b1, 0, none⟩ = some (.pointer (some ⟨gp, 0, none⟩)) ∧ w'.cell? ⟨b2, 0, none⟩ = some (.string name) ∧ w'.cell? ⟨gp, 0, none⟩ = some (.slice (some ⟨g, 0, none⟩) l.length i)) (ds := [18]) #[false, false, false, false, false, false, false, false, false, false, false, false, false, false, false, false, false, false, false] (by kernel_rfl) rfl rfl ⟨s1, s3, s2⟩ (fun hHeld => ?_)
   refine puS (i := 6) (N := some 18) (v := ?_) (a' := ?_) rfl rfl (by kernel_rfl) (fun _ _ _ h => h) (Or.inl ⟨by rfl, ?_⟩) ?_ ?_
   rotate_left
   ·intro w'
    go_simp
    with_reducible rfl
   rotate_left
   ·simp only [Act.put, zA, zZ, zS, aI, aJ]
    rfl
   refine puS (i := 7) (N := some 19) (v := ?_) (a' := ?_) rfl rfl (by kernel_rfl) (fun _ _ _ h => h) (Or.inl ⟨by rfl, ?_⟩) ?_ ?_
   rotate_left
   ·intro w'
    go_simp
    with_reducible rfl
   rotate_left
   ·simp only [Act.put, zA, zZ, zS, aI, aJ]
    rfl
   refine puS (i := 13) (N := some 25) (v := ?_) (a' := ?_) rfl rfl (by kernel_rfl) (fun _ _ _ h => h) (Or.inl ⟨by rfl, ?_⟩) ?_ ?_
   rotate_left
   ·intro w'
    go_simp
    with_reducible rfl
   rotate_left
   ·simp only [Act.put, zA, zZ, zS, aI, aJ]
    rfl
   refine tkS (i := 0) (N := some 12) (v := ?_) (a' := ?_) rfl rfl (by kernel_rfl) (fun _ _ _ h => h) (Or.inl ⟨by rfl, ?_⟩) hHeld ?_ ?_
   rotate_left
   ·rintro w' ⟨s0, s1, s2⟩
    go_simp
    with_reducible rfl
   rotate_left
   ·simp only [Act.put, zA, zZ, zS, aI, aJ]
    rfl
   refine tkS (i := 1) (N := some 13) (v := ?_) (a' := ?_) rfl rfl (by kernel_rfl) (fun _ _ _ h => h) (Or.inl ⟨by rfl, ?_⟩) hHeld ?_ ?_
   rotate_left
   ·rintro w' ⟨s0, s1, s2⟩
    go_simp
    with_reducible rfl
   rotate_left
   ·simp only [Act.put, zA, zZ, zS, aI, aJ]
    rfl
   refine puS (i := 2) (N := some 14) (v := ?_) (a' := ?_) rfl rfl (by kernel_rfl) (fun _ _ _ h => h) (Or.inl ⟨by rfl, ?_⟩) ?_ ?_
   rotate_left
   ·intro w'
    go_simp
    with_reducible rfl
   rotate_left
   ·simp only [Act.put, zA, zZ, zS, aI, aJ]
    rfl
   refine puS (i := 3) (N := some 15) (v := ?_) (a' := ?_) rfl rfl (by kernel_rfl) (fun _ _ _ h => h) (Or.inl ⟨by rfl, ?_⟩) ?_ ?_
   rotate_left
   ·intro w'
    go_simp
    with_reducible rfl
   rotate_left
   ·simp only [Act.put, zA, zZ, zS, aI, aJ]
    rfl
   refine puS (i := 4) (N := some 16) (v := ?_) (a' := ?_) rfl rfl (by kernel_rfl) (fun _ _ _ h => h) (Or.inl ⟨by rfl, ?_⟩) ?_ ?_
   rotate_left
   ·intro w'
    go_simp
    with_reducible rfl
   rotate_left
   ·simp only [Act.put, zA, zZ, zS, aI, aJ]
    rfl
   refine tkS (i := 5) (N := some 17) (v := ?_) (a' := ?_) rfl rfl (by kernel_rfl) (fun _ _ _ h => h) (Or.inl ⟨by rfl, ?_⟩) hHeld ?_ ?_
   rotate_left
   ·rintro w' ⟨s0, s1, s2⟩
    go_simp
    with_reducible rfl
   rotate_left
   ·simp only [Act.put, zA, zZ, zS, aI, aJ]
    rfl
   refine puS (i := 8) (N := some 20) (v := ?_) (a' := ?_) rfl rfl (by kernel_rfl) (fun _ _ _ h => h) (Or.inl ⟨by rfl, ?_⟩) ?_ ?_
   rotate_left
   ·intro w'
    go_simp
    with_reducible rfl
   rotate_left
   ·simp only [Act.put, zA, zZ, zS, aI, aJ]
    rfl
   refine tkS (i := 9) (N := some 21) (v := ?_) (a' := ?_) rfl rfl (by kernel_rfl) (fun _ _ _ h => h) (Or.inl ⟨by rfl, ?_⟩) hHeld ?_ ?_
   rotate_left
   ·rintro w' ⟨s0, s1, s2⟩
    go_simp
    with_reducible rfl
   rotate_left
   ·simp only [Act.put, zA, zZ, zS, aI, aJ]
    rfl
   refine puS (i := 10) (N := some 22) (v := ?_) (a' := ?_) rfl rfl (by kernel_rfl) (fun _ _ _ h => h) (Or.inl ⟨by rfl, ?_⟩) ?_ ?_
   rotate_left
   ·intro w'
    go_simp
    with_reducible rfl
   rotate_left
   ·simp only [Act.put, zA, zZ, zS, aI, aJ]
    rfl
   refine onS (i := 11) (N := some 23) rfl rfl (by kernel_rfl) (by decide) (fun K hK => ?_)
   refine IJ (w1 := ?_) (v := ?_) (by rfl) rfl ?_ ?_
   rotate_left 2
   ·go_simp
    constructor
    ·rfl
    ·rfl
   refine hK.out _ _ ⟨((aH (bC HB1.out _) 0).trans rfl), ((aH (bC HB2.out _) 0).trans rfl), ((aH (bC HP.out _) 0).trans rfl)⟩ (fun hHeld => ?_)
   clear hK K
   refine fE (a' := ?_) ?_ ?_
   rotate_left
   ·show Act.put _ (some 23) _ = _
    simp only [Act.put, zA, zZ, zS, aI, aJ]
    rfl
   refine onS (i := 12) (N := some 24) rfl rfl (by kernel_rfl) (by decide) (fun K hK => ?_)
   refine step_append_grows rfl (.tmp 20) (.tmp 23) 25 rfl 67 i0 _ 3 40 Tryz.underlying25 HI0.out HZ0.out HZ1.out HZ2.out rfl (by decide) (some ⟨g, 0, none⟩) i i ((cellsOf l).take (i * 3)) rfl (fun h => by cases h) ?loe ?qeh ⟨w.heap.size, 0, none⟩ 1 1 [.string name, .string ⟨#[]⟩, .int .i64 0] rfl rfl ?qei ?qg1 (by omega) (by unfold maxLen; omega) (by omega) ?_
   case loe => rw [List.length_take, cellsOf_length]; omega
   case qeh => intro b hb j u hj; injection hb with hb; subst hb; rw [add_plain]; exact kG (bC HH.out _) H6.out (P7 hj)
   case qei =>
    intro j u hj
    match j, hj with
    | 0, hj => simp at hj; subst hj; rw [add_plain]; exact (aH (jV w _) 0).trans rfl
    | 1, hj => simp at hj; subst hj; rw [add_plain]; exact (aH (jV w _) 1).trans rfl
    | 2, hj => simp at hj; subst hj; rw [add_plain]; exact (aH (jV w _) 2).trans rfl
    | j + 3, hj => simp at hj
   case qg1 => intro u hu; simp at hu; rcases hu with rfl | rfl | rfl <;> rfl
   intro v2 w2 hown hgr
   rw [← vG l i name] at hown
   have hR2 : Kd.R k67 67 w2 base (fun _ => True) v2 (l.take i ++ [(⟨name, ⟨#[]⟩, 0⟩ : S67)]) := l9 (by
    have hlen : (l.take i ++ [(⟨name, ⟨#[]⟩, 0⟩ : S67)]).length = i + 1 := by rw [List.length_append, List.length_take, List.length_singleton]; omega
    rw [hlen]
    exact uX hown (by simp; omega))
   have HO2 := aC.mk hR2
   have HG2 := aC.mk hgr
   clear hown hgr hR2
   refine hK.out _ _ ⟨((aH (wB HB1.out HG2.out) 0).trans rfl), ((aH (wB HB2.out HG2.out) 0).trans rfl), ((aH (wB HP.out HG2.out) 0).trans rfl)⟩ (fun hHeld => ?_)
   clear hK K
   refine fE (a' := ?_) ?_ ?_
   rotate_left
   ·show Act.put _ (some 24) _ = _
    simp only [Act.put, zA, zZ, zS, aI, aJ]
    rfl
   refine onS (i := 14) (N := some 26) rfl rfl (by kernel_rfl) (by decide) (fun K hK => ?_)
   refine Kd.kJ k67 (w0 := w) (Rr := fun (x : S67) cs => cs = cells3 x) base (by rfl) (.tmp 24) (.tmp 25) 25 67 (.agg #[(.string ⟨#[]⟩), (.string ⟨#[]⟩), (.int .i64 0)]) 40 rfl Tryz.underlying25 DZ rfl (by decide) (by omega) v2 _ (l.drop i) (some ⟨g, 0, none⟩) 0 0 (fun _ => True) (fun _ => False) rfl rfl HO2.out ?rde (fun x cs h => by subst h; exact xW _ _ _ x) (fun _ h => h.elim) (fun _ _ => trivial) ?qg2 ?bse ?ble ?_
   case rde => exact ⟨by rw [List.length_drop]; omega, by omega, fun h => absurd h (by omega)⟩
   case qg2 => exact vI (gI (vH (Below.refl base w) hbase)) HG2.out (by simp; omega)
   case bse => have := HG2.out.size; simp at this; omega
   case ble => rw [List.length_append, List.length_take, List.length_singleton]; omega
   intro v3 w3 ho3 hb3 hg3 _
   rw [← HL3.out] at ho3
   obtain ⟨A9, c9, rfl⟩ := Kd.dZ ho3
   have HO3 := aC.mk ho3
   have HB3 := aC.mk hb3
   have HG3 := aC.mk hg3
   clear ho3 hb3 hg3
   have hfr := aG (oG HP.out HG2.out HO2.out HG3.out (by decide)) 0
   refine hK.out _ _ ⟨((aH (oG HB1.out HG2.out HO2.out HG3.out (by decide)) 0).trans rfl), ((aH (oG HB2.out HG2.out HO2.out HG3.out (by decide)) 0).trans rfl), ((aH (oG HP.out HG2.out HO2.out HG3.out (by decide)) 0).trans rfl)⟩ (fun hHeld => ?_)
   clear hK K
   refine fE (a' := ?_) ?_ ?_
   rotate_left
   ·show Act.put _ (some 26) _ = _
    simp only [Act.put, zA, zZ, zS, aI, aJ]
    rfl
   refine puS (i := 15) (N := some 27) (v := ?_) (a' := ?_) rfl rfl (by kernel_rfl) (fun _ _ _ h => h) (Or.inl ⟨by rfl, ?_⟩) ?_ ?_
   rotate_left
   ·intro w'
    go_simp
    with_reducible rfl
   rotate_left
   ·simp only [Act.put, zA, zZ, zS, aI, aJ]
    rfl
   refine puS (i := 16) (N := some 28) (v := ?_) (a' := ?_) rfl rfl (by kernel_rfl) (fun _ _ _ h => h) (Or.inl ⟨by rfl, ?_⟩) ?_ ?_
   rotate_left
   ·intro w'
    go_simp
    with_reducible rfl
   rotate_left
   ·simp only [Act.put, zA, zZ, zS, aI, aJ]
    rfl
   refine puS (i := 17) (N := some 29) (v := ?_) (a' := ?_) rfl rfl (by kernel_rfl) (fun _ _ _ h => h) (Or.inl ⟨by rfl, ?_⟩) ?_ ?_
   rotate_left
   ·intro w'
    go_simp
    with_reducible rfl
   rotate_left
   ·simp only [Act.put, zA, zZ, zS, aI, aJ]
    rfl
   refine laS (i := 18) (N := none) rfl rfl (by kernel_rfl) (by decide) (fun K hK => ?_)
   refine wG (w1 := ?_) (by rfl) rfl ?_ ?_
   rotate_left
   ·go_simp
    rfl
   refine hK.out _ _ ?_
   clear hK K
   refine iT (by kernel_rfl) ?_
   go_end0
   refine ⟨rfl, _, fQ (cs := #[.slice (some ⟨g, 0, none⟩) l.length i, .bool dn, .int .i64 fu, .int .i64 fa]) (oG HP.out HG2.out HO2.out HG3.out (by decide)) 0 _ rfl, ?_, HB3.out.setCell ?_ _, fun k cs h => ?_⟩
   ·exact R1 (j := 0) HO3.out (oG HP.out HG2.out HO2.out HG3.out (by decide)) (by decide) _
   ·exact qaJ
   ·exact dO (p := ⟨gp, 0, none⟩) (oG h HG2.out HO2.out HG3.out (by decide)) (gW h HP.out (by decide)) _
  ·go_enter Tryz.func167, Tryz.ntmps167
   go_wp2
   refine fO (n := 19) (S := fun w' => w'.cell? ⟨b1, 0, none⟩ = some (.pointer (some ⟨gp, 0, none⟩)) ∧ w'.cell? ⟨b2, 0, none⟩ = some (.string name) ∧ w'.cell? ⟨gp, 0, none⟩ = some (.slice (some ⟨g, 0, none⟩) l.length c)) (ds := [18]) #[false, false, false, false, false, false, false, false, false, false, false, false, false, false, false, false, false, false, false] (by kernel_rfl) rfl rfl ⟨s1, s3, s2⟩ (fun hHeld => ?_)
   refine puS (i := 6) (N := some 18) (v := ?_) (a' := ?_) rfl rfl (by kernel_rfl) (fun _ _ _ h => h) (Or.inl ⟨by rfl, ?_⟩) ?_ ?_
   rotate_left
   ·intro w'
    go_simp
    with_reducible rfl
   rotate_left
   ·simp only [Act.put, zA, zZ, zS, aI, aJ]
    rfl
   refine puS (i := 7) (N := some 19) (v := ?_) (a' := ?_) rfl rfl (by kernel_rfl) (fun _ _ _ h => h) (Or.inl ⟨by rfl, ?_⟩) ?_ ?_
   rotate_left
   ·intro w'
    go_simp
    with_reducible rfl
   rotate_left
   ·simp only [Act.put, zA, zZ, zS, aI, aJ]
    rfl
   refine puS (i := 13) (N := some 25) (v := ?_) (a' := ?_) rfl rfl (by kernel_rfl) (fun _ _ _ h => h) (Or.inl ⟨by rfl, ?_⟩) ?_ ?_
   rotate_left
   ·intro w'
    go_simp
    with_reducible rfl
   rotate_left
   ·simp only [Act.put, zA, zZ, zS, aI, aJ]
    rfl
   refine tkS (i := 0) (N := some 12) (v := ?_) (a' := ?_) rfl rfl (by kernel_rfl) (fun _ _ _ h => h) (Or.inl ⟨by rfl, ?_⟩) hHeld ?_ ?_
   rotate_left
   ·rintro w' ⟨s0, s1, s2⟩
    go_simp
    with_reducible rfl
   rotate_left
   ·simp only [Act.put, zA, zZ, zS, aI, aJ]
    rfl
   refine tkS (i := 1) (N := some 13) (v := ?_) (a' := ?_) rfl rfl (by kernel_rfl) (fun _ _ _ h => h) (Or.inl ⟨by rfl, ?_⟩) hHeld ?_ ?_
   rotate_left
   ·rintro w' ⟨s0, s1, s2⟩
    go_simp
    with_reducible rfl
   rotate_left
   ·simp only [Act.put, zA, zZ, zS, aI, aJ]
    rfl
   refine puS (i := 2) (N := some 14) (v := ?_) (a' := ?_) rfl rfl (by kernel_rfl) (fun _ _ _ h => h) (Or.inl ⟨by rfl, ?_⟩) ?_ ?_
   rotate_left
   ·intro w'
    go_simp
    with_reducible rfl
   rotate_left
   ·simp only [Act.put, zA, zZ, zS, aI, aJ]
    rfl
   refine puS (i := 3) (N := some 15) (v := ?_) (a' := ?_) rfl rfl (by kernel_rfl) (fun _ _ _ h => h) (Or.inl ⟨by rfl, ?_⟩) ?_ ?_
   rotate_left
   ·intro w'
    go_simp
    with_reducible rfl
   rotate_left
   ·simp only [Act.put, zA, zZ, zS, aI, aJ]
    rfl
   refine puS (i := 4) (N := some 16) (v := ?_) (a' := ?_) rfl rfl (by kernel_rfl) (fun _ _ _ h => h) (Or.inl ⟨by rfl, ?_⟩) ?_ ?_
   rotate_left
   ·intro w'
    go_simp
    with_reducible rfl
   rotate_left
   ·simp only [Act.put, zA, zZ, zS, aI, aJ]
    rfl
   refine tkS (i := 5) (N := some 17) (v := ?_) (a' := ?_) rfl rfl (by kernel_rfl) (fun _ _ _ h => h) (Or.inl ⟨by rfl, ?_⟩) hHeld ?_ ?_
   rotate_left
   ·rintro w' ⟨s0, s1, s2⟩
    go_simp
    with_reducible rfl
   rotate_left
   ·simp only [Act.put, zA, zZ, zS, aI, aJ]
    rfl
   refine puS (i := 8) (N := some 20) (v := ?_) (a' := ?_) rfl rfl (by kernel_rfl) (fun _ _ _ h => h) (Or.inl ⟨by rfl, ?_⟩) ?_ ?_
   rotate_left
   ·intro w'
    go_simp
    with_reducible rfl
   rotate_left
   ·simp only [Act.put, zA, zZ, zS, aI, aJ]
    rfl
   refine tkS (i := 9) (N := some 21) (v := ?_) (a' := ?_) rfl rfl (by kernel_rfl) (fun _ _ _ h => h) (Or.inl ⟨by rfl, ?_⟩) hHeld ?_ ?_
   rotate_left
   ·rintro w' ⟨s0, s1, s2⟩
    go_simp
    with_reducible rfl
   rotate_left
   ·simp only [Act.put, zA, zZ, zS, aI, aJ]
    rfl
   refine puS (i := 10) (N := some 22) (v := ?_) (a' := ?_) rfl rfl (by kernel_rfl) (fun _ _ _ h => h) (Or.inl ⟨by rfl, ?_⟩) ?_ ?_
   rotate_left
   ·intro w'
    go_simp
    with_reducible rfl
   rotate_left
   ·simp only [Act.put, zA, zZ, zS, aI, aJ]
    rfl
   refine onS (i := 11) (N := some 23) rfl rfl (by kernel_rfl) (by decide) (fun K hK => ?_)
   refine IJ (w1 := ?_) (v := ?_) (by rfl) rfl ?_ ?_
   rotate_left 2
   ·go_simp
    constructor
    ·rfl
    ·rfl
   refine hK.out _ _ ⟨((aH (bC HB1.out _) 0).trans rfl), ((aH (bC HB2.out _) 0).trans rfl), ((aH (bC HP.out _) 0).trans rfl)⟩ (fun hHeld => ?_)
   clear hK K
   refine fE (a' := ?_) ?_ ?_
   rotate_left
   ·show Act.put _ (some 23) _ = _
    simp only [Act.put, zA, zZ, zS, aI, aJ]
    rfl
   refine onS (i := 12) (N := some 24) rfl rfl (by kernel_rfl) (by decide) (fun K hK => ?_)
   refine step_append_grows rfl (.tmp 20) (.tmp 23) 25 rfl 67 i0 _ 3 40 Tryz.underlying25 HI0.out HZ0.out HZ1.out HZ2.out rfl (by decide) (some ⟨g, 0, none⟩) i i ((cellsOf l).take (i * 3)) rfl (fun h => by cases h) ?log ?qej ⟨w.heap.size, 0, none⟩ 1 1 [.string name, .string ⟨#[]⟩, .int .i64 0] rfl rfl ?qek ?qg3 (by omega) (by unfold maxLen; omega) (by omega) ?_
   case log => rw [List.length_take, cellsOf_length]; omega
   case qej => intro b hb j u hj; injection hb with hb; subst hb; rw [add_plain]; exact kG (bC HH.out _) H6.out (P7 hj)
   case qek =>
    intro j u hj
    match j, hj with
    | 0, hj => simp at hj; subst hj; rw [add_plain]; exact (aH (jV w _) 0).trans rfl
    | 1, hj => simp at hj; subst hj; rw [add_plain]; exact (aH (jV w _) 1).trans rfl
    | 2, hj => simp at hj; subst hj; rw [add_plain]; exact (aH (jV w _) 2).trans rfl
    | j + 3, hj => simp at hj
   case qg3 => intro u hu; simp at hu; rcases hu with rfl | rfl | rfl <;> rfl
   intro v2 w2 hown hgr
   rw [← vG l i name] at hown
   have hR2 : Kd.R k67 67 w2 base (fun _ => True) v2 (l.take i ++ [(⟨name, ⟨#[]⟩, 0⟩ : S67)]) := l9 (by
    have hlen : (l.take i ++ [(⟨name, ⟨#[]⟩, 0⟩ : S67)]).length = i + 1 := by rw [List.length_append, List.length_take, List.length_singleton]; omega
    rw [hlen]
    exact uX hown (by simp; omega))
   have HO2 := aC.mk hR2
   have HG2 := aC.mk hgr
   clear hown hgr hR2
   refine hK.out _ _ ⟨((aH (wB HB1.out HG2.out) 0).trans rfl), ((aH (wB HB2.out HG2.out) 0).trans rfl), ((aH (wB HP.out HG2.out) 0).trans rfl)⟩ (fun hHeld => ?_)
   clear hK K
   refine fE (a' := ?_) ?_ ?_
   rotate_left
   ·show Act.put _ (some 24) _ = _
    simp only [Act.put, zA, zZ, zS, aI, aJ]
    rfl
   refine onS (i := 14) (N := some 26) rfl rfl (by kernel_rfl) (by decide) (fun K hK => ?_)
   refine Kd.kJ k67 (w0 := w) (Rr := fun (x : S67) cs => cs = cells3 x) base (by rfl) (.tmp 24) (.tmp 25) 25 67 (.agg #[(.string ⟨#[]⟩), (.string ⟨#[]⟩), (.int .i64 0)]) 40 rfl Tryz.underlying25 DZ rfl (by decide) (by omega) v2 _ (l.drop i) (some ⟨g, i * 3, none⟩) (l.length - i) (c - i) (fun _ => True) (fun _ => False) rfl rfl HO2.out ?rdg (fun x cs h => by subst h; exact xW _ _ _ x) (fun _ h => h.elim) (fun _ _ => trivial) ?qg4 ?bsg ?blg ?_
   case rdg => exact MW (wB HH.out HG2.out) H6.out (by omega) _ (fun _ => rfl)
   case qg4 => exact vI (gI (vH (Below.refl base w) hbase)) HG2.out (by simp; omega)
   case bsg => have := HG2.out.size; simp at this; omega
   case blg => rw [List.length_append, List.length_take, List.length_singleton]; omega
   intro v3 w3 ho3 hb3 hg3 _
   rw [← HL3.out] at ho3
   obtain ⟨A9, c9, rfl⟩ := Kd.dZ ho3
   have HO3 := aC.mk ho3
   have HB3 := aC.mk hb3
   have HG3 := aC.mk hg3
   clear ho3 hb3 hg3
   have hfr := aG (oG HP.out HG2.out HO2.out HG3.out (by decide)) 0
   refine hK.out _ _ ⟨((aH (oG HB1.out HG2.out HO2.out HG3.out (by decide)) 0).trans rfl), ((aH (oG HB2.out HG2.out HO2.out HG3.out (by decide)) 0).trans rfl), ((aH (oG HP.out HG2.out HO2.out HG3.out (by decide)) 0).trans rfl)⟩ (fun hHeld => ?_)
   clear hK K
   refine fE (a' := ?_) ?_ ?_
   rotate_left
   ·show Act.put _ (some 26) _ = _
    simp only [Act.put, zA, zZ, zS, aI, aJ]
    rfl
   refine puS (i := 15) (N := some 27) (v := ?_) (a' := ?_) rfl rfl (by kernel_rfl) (fun _ _ _ h => h) (Or.inl ⟨by rfl, ?_⟩) ?_ ?_
   rotate_left
   ·intro w'
    go_simp
    with_reducible rfl
   rotate_left
   ·simp only [Act.put, zA, zZ, zS, aI, aJ]
    rfl
   refine puS (i := 16) (N := some 28) (v := ?_) (a' := ?_) rfl rfl (by kernel_rfl) (fun _ _ _ h => h) (Or.inl ⟨by rfl, ?_⟩) ?_ ?_
   rotate_left
   ·intro w'
    go_simp
    with_reducible rfl
   rotate_left
   ·simp only [Act.put, zA, zZ, zS, aI, aJ]
    rfl
   refine puS (i := 17) (N := some 29) (v := ?_) (a' := ?_) rfl rfl (by kernel_rfl) (fun _ _ _ h => h) (Or.inl ⟨by rfl, ?_⟩) ?_ ?_
   rotate_left
   ·intro w'
    go_simp
    with_reducible rfl
   rotate_left
   ·simp only [Act.put, zA, zZ, zS, aI, aJ]
    rfl
   refine laS (i := 18) (N := none) rfl rfl (by kernel_rfl) (by decide) (fun K hK => ?_)
   refine wG (w1 := ?_) (by rfl) rfl ?_ ?_
   rotate_left
   ·go_simp
    rfl
   refine hK.out _ _ ?_
   clear hK K
   refine iT (by kernel_rfl) ?_
   go_end0
   refine ⟨rfl, _, fQ (cs := #[.slice (some ⟨g, 0, none⟩) l.length c, .bool dn, .int .i64 fu, .int .i64 fa]) (oG HP.out HG2.out HO2.out HG3.out (by decide)) 0 _ rfl, ?_, HB3.out.setCell ?_ _, fun k cs h => ?_⟩
   ·exact R1 (j := 0) HO3.out (oG HP.out HG2.out HO2.out HG3.out (by decide)) (by decide) _
   ·exact qaJ
   ·exact dO (p := ⟨gp, 0, none⟩) (oG h HG2.out HO2.out HG3.out (by decide)) (gW h HP.out (by decide)) _
set_option maxHeartbeats 4000000 in
theorem MX (W w1 : World) (gp : Nat) (v : Value) (l : List S67) (dn : Bool) (fu fa : Int) (name : ByteArray) (sd : Int → List S67) (hsd : ∀ i : Nat, i ≤ l.length → sd (i : Int) = l.take i ++ [(⟨name, ⟨#[]⟩, 0⟩ : S67)] ++ l.drop i) (hb : Below W.heap.size W w1) (hgp : W.heap.size ≤ gp) (hp : w1.heap[gp]? = some (.cells #[v, .bool dn, .int .i64 fu, .int .i64 fa] 211 (0, 0)))
  (ho : Kd.R k67 67 w1 W.heap.size (fun _ => True) v l) (hok : bI l = true) :
  Calls Tryz.prog 125 #[.pointer (some ⟨gp, 0, none⟩), .string name] w1 fun e w2 => ∃ rv dv : Value, e = .returned (.agg #[rv, dv, .bool false]) ∧ Below w1.heap.size w1 w2 ∧ qbS w2 rv l.length (rfC name l.length) ∧ DoV W.heap.size gp w2 dv v l (rfC name l.length) sd := by
 obtain ⟨A, c, rfl⟩ := Kd.dZ ho
 have hlt : gp < w1.heap.size := gJ hp
 have hle : l.length ≤ 64 := by
  simp only [bI, Bool.and_eq_true, decide_eq_true_eq] at hok
  exact hok.2
 go_enter Tryz.func125, Tryz.ntmps125
 go_wp2
 refine bodyPost_ret (results_cell_row rfl _ _ (w1.heap.size + 2) 179 #[.func (.func 166) #[] #[.pointer (some ⟨w1.heap.size + 1, 0, none⟩), .pointer (some ⟨w1.heap.size, 0, none⟩)], .func (.func 167) #[] #[.pointer (some ⟨w1.heap.size, 0, none⟩), .pointer (some ⟨w1.heap.size + 1, 0, none⟩)], .bool false] (0, 0) _ rfl (qaF w1 _ _ _) Tryz.underlying179 rfl (by kernel_rfl)) rfl ?_
 refine ⟨_, _, rfl, aQ (aQ (aQ (Below.refl _ _) _) _) _, ⟨166, _, rfl, qaH, fun w3 i b hb3 hil hib => ?_⟩, 167, _, rfl, qaI, fun w3 i b dn fu fa hk hil hib hrf hp3 ho3 => ?_⟩
 ·refine fB (args' := #[.int .i64 (i : Int), .bool b, .pointer (some ⟨w1.heap.size + 1, 0, none⟩), .pointer (some ⟨w1.heap.size, 0, none⟩)]) (by simp) ?_
  have IX := hb3 _ _ _ (by decide) (by decide) (by simp) (KZ w1 _ _ _)
  have IY := hb3 _ _ _ (by decide) (by decide) (by simp) (LC w1 _ _ _)
  have hpp := hb3 _ _ _ (by decide) (by decide) (by simp) (bC (bC (bC hp _) _) _)
  refine (KN w3 gp w1.heap.size (w1.heap.size + 1) name A l.length c i b (by omega) ((aH IY 0).trans rfl) ((aH IX 0).trans rfl) ((aH hpp 0).trans rfl)).mono ?_
  rintro e w4 ⟨rfl, rfl⟩
  exact ⟨rfl, Below.refl _ _⟩
 ·refine fB (args' := #[.int .i64 (i : Int), .pointer (some ⟨w1.heap.size, 0, none⟩), .pointer (some ⟨w1.heap.size + 1, 0, none⟩)]) (by simp) ?_
  have IX := hk _ _ _ (by decide) (by decide) (fun h => by injection h with h; omega) (KZ w1 _ _ _)
  have IY := hk _ _ _ (by decide) (by decide) (fun h => by injection h with h; omega) (LC w1 _ _ _)
  have hsz : W.heap.size ≤ w3.heap.size := by have := gJ hp3; omega
  refine (Y1 gp w1.heap.size (w1.heap.size + 1) w3 W.heap.size l name A c dn fu fa i hil hle IX IY ⟨hp3, ho3⟩ hsz hgp).mono fun e w4 h => ?_
  rw [hsd i hil]
  exact h
set_option maxHeartbeats 4000000 in
theorem Y2 (W : World) (nb : Nat) (l : List S67) (dn : Bool) (fu fa : Int) (name : ByteArray) (sd : Int → List S67) (hsd : ∀ i : Nat, i ≤ l.length → sd (i : Int) = l.take i ++ [(⟨name, ⟨#[]⟩, 0⟩ : S67)] ++ l.drop i) (hnb : W.heap[nb]? = some (.cells #[.string name] 9 (0, 0))) :
  OfV W 124 #[.pointer (some ⟨nb, 0, none⟩)] l dn fu fa false (rfC name l.length) sd := by
 intro w1 gp v hb hgp hp ho hok
 have hc := (aH (bG hnb hb) 0).trans rfl
 refine fB (args' := #[.pointer (some ⟨gp, 0, none⟩), .pointer (some ⟨nb, 0, none⟩)]) (by simp) ?_
 have HB := aC.mk hb
 have HGP := aC.mk hgp
 have HP := aC.mk hp
 have HO := aC.mk ho
 have HOK := aC.mk hok
 clear hb hgp hp ho hok hnb
 go_enter Tryz.func124, Tryz.ntmps124
 go_wp2_with (first
 |((with_reducible refine aU (N := 3) rfl ?_);
   refine dL ?hg (N := 3) ?hd (cs := #[.nilFunc, .nilFunc, .bool false]) (t := 179) ?hr ?_;
   (case hd => rfl); (case hg => rfl); (case hr => first | (go_simp; done) | (go_simp; rfl));
   intro g3 hg w2 hbox hb2;
   have N3 := aC.mk (show w1.heap.size ≤ g3 by rw [hg]; exact Nat.le_refl _);
   have hc2 := (hb2.cell (World.block_lt_of_cell? w1 _ hc)).trans hc;
   have HB2 := aC.mk hb2; have BK3 := aC.mk hbox; clear hg hbox hb2 hc)
 |fail)
 refine ((MX W _ gp v l dn fu fa name sd hsd (bF HB.out HB2.out) HGP.out (bG HP.out HB2.out) (Kd.qB HO.out HB2.out) HOK.out).mono ?_)
 rintro e w4 ⟨rv, dv, rfl, hb4, ⟨Kr, cr, rfl, hKr, hrf⟩, ⟨Kd_, cd, rfl, hKd, hdo⟩⟩
 have HKr := aC.mk hKr
 have Hrf := aC.mk hrf
 have HKd := aC.mk hKd
 have Hdo := aC.mk hdo
 have HB4 := aC.mk hb4
 have bk := bG BK3.out hb4
 have c0 := (aH bk 0).trans rfl
 have c1 := (aH bk 1).trans rfl
 have c2 := (aH bk 2).trans rfl
 have f0 := aG bk 0
 have f1 := aG bk 1
 have f2 := aG bk 2
 have BK4 := aC.mk bk
 clear hKr hrf hKd hdo hb4 bk
 go_wp2
 refine bodyPost_ret (results_cell_row rfl _ _ g3 179 #[.func (.func Kr) #[] cr, .func (.func Kd_) #[] cd, .bool false] (0, 0) _ rfl (qbT BK4.out _ _ _) Tryz.underlying179 rfl (by kernel_rfl)) rfl ?_
 have hw4 : Below w1.heap.size w1 w4 := bF HB2.out HB4.out
 have hgg : ∀ (k : Nat), k ≠ g3 → (((w4.setCell ⟨g3, 0, none⟩ (.func (.func Kr) #[] cr)).setCell ⟨g3, 1, none⟩ (.func (.func Kd_) #[] cd)).setCell ⟨g3, 2, none⟩ (.bool false)).heap[k]? = w4.heap[k]? := fun k hk =>
  ((Below.heap_setCell _ ⟨g3, 2, none⟩ _ k hk).trans (Below.heap_setCell _ ⟨g3, 1, none⟩ _ k hk)).trans (Below.heap_setCell _ ⟨g3, 0, none⟩ _ k hk)
 refine ⟨_, _, rfl, below3 hw4 N3.out _ _ _, ⟨Kr, cr, rfl, HKr.out, ?_⟩, Kd_, cd, rfl, HKd.out, ?_⟩
 ·intro w5 i b hk hil hib
  refine Hrf.out w5 i b (fun k cs t h1 h2 h3 h4 => hk k cs t h1 h2 h3 ?_) hil hib
  rw [hgg k (fun e => by subst e; exact absurd h4 (Y0 BK4.out h1))]
  exact h4
 ·intro w5 i b dn fu fa hk
  refine Hdo.out w5 i b dn fu fa (fun k cs t h1 h2 h3 h4 => hk k cs t h1 h2 h3 ?_)
  rw [hgg k (fun e => by subst e; exact absurd h4 (Y0 BK4.out h1))]
  exact h4
end Go.Proofs.U
