import Derived.Test.YtanonhipicoigaaGreatDoorZQai
import Derived.Laws.EntriesVeiled
import Derived.Test.YtanonhipicoigaaGreatDoorZQag
set_option linter.unusedVariables false
set_option linter.unusedSimpArgs false
namespace Go.Proofs.YtanonhipicoigaaGreatDoor.U
open Go.RowKit Go.Proofs.YW.PrintWords Go.Proofs.YW.PrintLast Go.Proofs.YW.PrintMore
def Enters (K : Nat) : Prop := ∀ (args : Array Value) (w : World), (callFunc K args).run Tryz.prog w = .ok (.enter K args) w
def uU (w2 w3 : World) (p : Option Nat) : Prop := ∀ (k : Nat) (cs : Array Value) (t : Nat), t ≠ 179 → t ≠ 27 → some k ≠ p → w2.heap[k]? = some (.cells cs t (0, 0)) → w3.heap[k]? = some (.cells cs t (0, 0))
theorem uU.of_below {w2 w3 : World} (h : Below w2.heap.size w2 w3) : uU w2 w3 none := fun _ _ _ _ _ _ hk => bG hk h
theorem uU.vO {w2 w3 : World} {g : Nat} (h : fB w2 w3 g none) : uU w2 w3 (some g) := fun k _ _ _ _ hg hk => h.blk hk (fun e => hg (by rw [e])) (by simp)
def qeq (w2 : World) (rv : Value) (n : Nat) (rf : Int → Bool → Int) : Prop :=
 ∃ (K : Nat) (caps : Array Value), rv = .func (.func K) #[] caps ∧ Enters K ∧
  ∀ (w3 : World) (i : Nat) (b : Bool), uU w2 w3 none → i ≤ n → (b = true → i < n) →
     Calls Tryz.prog K (#[.int .i64 (i : Int), .bool b] ++ caps) w3 fun e w4 => e = .returned (.int .i64 (rf i b)) ∧ Below w3.heap.size w3 w4
def DoV (base gp : Nat) (w2 : World) (dv v : Value) (l : List S67) (rf : Int → Bool → Int) (df : Int → List S67) : Prop :=
 ∃ (K : Nat) (caps : Array Value), dv = .func (.func K) #[] caps ∧ Enters K ∧
  ∀ (w3 : World) (i : Nat) (b : Bool) (dn : Bool) (fu fa : Int), uU w2 w3 (some gp) → i ≤ l.length → (b = true → i < l.length) → rf i b = 0 →
     w3.heap[gp]? = some (.cells #[v, .bool dn, .int .i64 fu, .int .i64 fa] 211 (0, 0)) → Kd.R k67 67 w3 base (fun _ => True) v l →
     Calls Tryz.prog K (#[.int .i64 (i : Int)] ++ caps) w3 fun e w4 => e = .returned (.tuple #[]) ∧ ∃ v' : Value,
      w4.heap[gp]? = some (.cells #[v', .bool dn, .int .i64 fu, .int .i64 fa] 211 (0, 0)) ∧ Kd.R k67 67 w4 base (fun _ => True) v' (df i) ∧ Below base w3 w4 ∧
      ∀ (k : Nat) (cs : Array Value), w3.heap[k]? = some (.cells cs 27 (0, 0)) → w4.heap[k]? = some (.cells cs 27 (0, 0))
def cZ (l : List S67) (dn : Bool) (fu fa : Int) (name : ByteArray) (wr : Bool) (rf : Int → Bool → Int) (df : Int → List S67) : List S67 × Bool × Int × Int × Int :=
 if bI l = true then
  if dn = true then (l, dn, fu, fa, 17)
  else if rf (bsOf l name : Int) (lI l name (bsOf l name)) = 0 then
   if fa = 0 then (l, dn, fu, -1, 18)
   else if fu = 0 then (if wr = true then df (bsOf l name : Int) else l, true, fu, (if 0 < fa then wrap64 (fa - 1) else fa), 17)
   else (df (bsOf l name : Int), dn, (if 0 < fu then wrap64 (fu - 1) else fu), (if 0 < fa then wrap64 (fa - 1) else fa), 0)
  else (l, dn, fu, fa, rf (bsOf l name : Int) (lI l name (bsOf l name)))
 else ([], false, 0, 0, 6)
def OfV (W : World) (K : Nat) (caps : Array Value) (l : List S67) (dn : Bool) (fu fa : Int) (wr : Bool) (rf : Int → Bool → Int) (df : Int → List S67) : Prop :=
 ∀ (w1 : World) (gp : Nat) (v : Value), Below W.heap.size W w1 → W.heap.size ≤ gp → w1.heap[gp]? = some (.cells #[v, .bool dn, .int .i64 fu, .int .i64 fa] 211 (0, 0)) → Kd.R k67 67 w1 W.heap.size (fun _ => True) v l → bI l = true →
  Calls Tryz.prog K (#[.pointer (some ⟨gp, 0, none⟩)] ++ caps) w1 fun e w2 => ∃ rv dv : Value, e = .returned (.agg #[rv, dv, .bool wr]) ∧ Below w1.heap.size w1 w2 ∧ qeq w2 rv l.length rf ∧ DoV W.heap.size gp w2 dv v l rf df
theorem uV {W : World} {g t : Nat} {a0 a1 a2 a3 : Value} (h : W.heap[g]? = some (.cells #[a0, a1, a2, a3] t (0, 0))) (x0 x1 x2 x3 : Value) :
  ((((W.setCell ⟨g, 0, none⟩ x0).setCell ⟨g, 1, none⟩ x1).setCell ⟨g, 2, none⟩ x2).setCell ⟨g, 3, none⟩ x3).heap[g]? = some (.cells #[x0, x1, x2, x3] t (0, 0)) :=
 fQ (cs := #[x0, x1, x2, a3]) (fQ (cs := #[x0, x1, a2, a3]) (fQ (cs := #[x0, a1, a2, a3]) (fQ (cs := #[a0, a1, a2, a3]) h 0 _ rfl) 1 _ rfl) 2 _ rfl) 3 _ rfl
theorem qji {W : World} {g g' t : Nat} {cs : Array Value} (h : W.heap[g]? = some (.cells cs t (0, 0))) (hp : g ≠ g') (x0 x1 x2 x3 : Value) :
  ((((W.setCell ⟨g', 0, none⟩ x0).setCell ⟨g', 1, none⟩ x1).setCell ⟨g', 2, none⟩ x2).setCell ⟨g', 3, none⟩ x3).heap[g]? = some (.cells cs t (0, 0)) :=
 dB (p := ⟨g', 3, none⟩) (dB (p := ⟨g', 2, none⟩) (dB (p := ⟨g', 1, none⟩) (dB (p := ⟨g', 0, none⟩) h hp _) hp _) hp _) hp _
theorem kL {w W : World} {g : Nat} (h : Below w.heap.size w W) (hg : w.heap.size ≤ g) (x0 x1 x2 x3 : Value) :
  Below w.heap.size w ((((W.setCell ⟨g, 0, none⟩ x0).setCell ⟨g, 1, none⟩ x1).setCell ⟨g, 2, none⟩ x2).setCell ⟨g, 3, none⟩ x3) :=
 bH (bH (bH (bH h hg) hg) hg) hg
theorem R4 {W : World} {base g t : Nat} {cs : Array Value} {v : Value} {l : List S67} (h : Kd.R k67 67 W base (fun _ => True) v l) (hb : W.heap[g]? = some (.cells cs t (0, 0))) (ht : 67 ≠ t) (x0 x1 x2 x3 : Value) :
  Kd.R k67 67 ((((W.setCell ⟨g, 0, none⟩ x0).setCell ⟨g, 1, none⟩ x1).setCell ⟨g, 2, none⟩ x2).setCell ⟨g, 3, none⟩ x3) base (fun _ => True) v l :=
 Kd.uG (Kd.LJ (p := ⟨g, 3, none⟩) (Kd.LJ (p := ⟨g, 2, none⟩) (Kd.LJ (p := ⟨g, 1, none⟩) (Kd.LJ (p := ⟨g, 0, none⟩) (Kd.SS h hb (fun q hq => by
  rw [show k67.E = [] from rfl] at hq
  rw [List.mem_singleton.1 hq]
  exact ht)) (fun _ hk => hk.2) _) (fun _ hk => hk.2) _) (fun _ hk => hk.2) _) (fun _ hk => hk.2) _) (fun _ _ => trivial)
theorem qer {W : World} {g t : Nat} {a0 a1 a2 : Value} (h : W.heap[g]? = some (.cells #[a0, a1, a2] t (0, 0))) (x0 x1 x2 : Value) :
  (((W.setCell ⟨g, 0, none⟩ x0).setCell ⟨g, 1, none⟩ x1).setCell ⟨g, 2, none⟩ x2).heap[g]? = some (.cells #[x0, x1, x2] t (0, 0)) :=
 fQ (cs := #[x0, x1, a2]) (fQ (cs := #[x0, a1, a2]) (fQ (cs := #[a0, a1, a2]) h 0 _ rfl) 1 _ rfl) 2 _ rfl
theorem qfS {W : World} {g g' t : Nat} {cs : Array Value} (h : W.heap[g]? = some (.cells cs t (0, 0))) (hp : g ≠ g') (x0 x1 x2 : Value) :
  (((W.setCell ⟨g', 0, none⟩ x0).setCell ⟨g', 1, none⟩ x1).setCell ⟨g', 2, none⟩ x2).heap[g]? = some (.cells cs t (0, 0)) :=
 dB (p := ⟨g', 2, none⟩) (dB (p := ⟨g', 1, none⟩) (dB (p := ⟨g', 0, none⟩) h hp _) hp _) hp _
theorem below3 {w W : World} {g : Nat} (h : Below w.heap.size w W) (hg : w.heap.size ≤ g) (x0 x1 x2 : Value) :
  Below w.heap.size w (((W.setCell ⟨g, 0, none⟩ x0).setCell ⟨g, 1, none⟩ x1).setCell ⟨g, 2, none⟩ x2) :=
 bH (bH (bH h hg) hg) hg
theorem R3 {W : World} {base g t : Nat} {cs : Array Value} {v : Value} {l : List S67} (h : Kd.R k67 67 W base (fun _ => True) v l) (hb : W.heap[g]? = some (.cells cs t (0, 0))) (ht : 67 ≠ t) (x0 x1 x2 : Value) :
  Kd.R k67 67 (((W.setCell ⟨g, 0, none⟩ x0).setCell ⟨g, 1, none⟩ x1).setCell ⟨g, 2, none⟩ x2) base (fun _ => True) v l :=
 Kd.uG (Kd.LJ (p := ⟨g, 2, none⟩) (Kd.LJ (p := ⟨g, 1, none⟩) (Kd.LJ (p := ⟨g, 0, none⟩) (Kd.SS h hb (fun q hq => by
  rw [show k67.E = [] from rfl] at hq
  rw [List.mem_singleton.1 hq]
  exact ht)) (fun _ hk => hk.2) _) (fun _ hk => hk.2) _) (fun _ hk => hk.2) _) (fun _ _ => trivial)
theorem R1 {W : World} {base g t j : Nat} {cs : Array Value} {v : Value} {l : List S67} (h : Kd.R k67 67 W base (fun _ => True) v l) (hb : W.heap[g]? = some (.cells cs t (0, 0))) (ht : 67 ≠ t) (x : Value) :
  Kd.R k67 67 (W.setCell ⟨g, j, none⟩ x) base (fun _ => True) v l :=
 Kd.uG (Kd.LJ (p := ⟨g, j, none⟩) (Kd.SS h hb (fun q hq => by
  rw [show k67.E = [] from rfl] at hq
  rw [List.mem_singleton.1 hq]
  exact ht)) (fun _ hk => hk.2) _) (fun _ _ => trivial)
set_option maxHeartbeats 4000000 in
set_option maxRecDepth 100000 in
theorem qN (K : Nat) (caps : Array Value) (hK : Enters K) (A : Option Addr) (c : Nat) (l : List S67) (dn : Bool) (fu fa : Int) (name : ByteArray) (w : World)
  (hr : Kd.C k67 w A l.length l) (hc : l.length ≤ c) (wr : Bool) (rf : Int → Bool → Int) (df : Int → List S67) (HOF : OfV w K caps l dn fu fa wr rf df) :
  Calls Tryz.prog 117 #[.agg #[.slice A l.length c, .bool dn, .int .i64 fu, .int .i64 fa], .string name, .func (.func K) #[] caps] w fun e w' => ∃ v0_ : Value,
   e = .returned (.tuple #[.agg #[v0_, .bool (cZ l dn fu fa name wr rf df).2.1, .int .i64 (cZ l dn fu fa name wr rf df).2.2.1, .int .i64 (cZ l dn fu fa name wr rf df).2.2.2.1], .int .i64 (cZ l dn fu fa name wr rf df).2.2.2.2]) ∧
    Kd.R k67 67 w' w.heap.size (fun _ => True) v0_ (cZ l dn fu fa name wr rf df).1 ∧ Below w.heap.size w w' := by
 obtain ⟨R, hR⟩ : ∃ R, R = cZ l dn fu fa name wr rf df := ⟨_, rfl⟩
 rw [← hR]
 have HRR := aA.mk hR
 clear hR
 have HR := aA.mk hr
 have qjj := aA.mk HOF
 have HK := aA.mk hK
 clear hr HOF hK
 have HB := aA.mk (Below.refl w.heap.size w)
 go_enter Tryz.func117, Tryz.ntmps117
 go_wp2_with (first
 |((with_reducible refine aN (N := 3) rfl ?_);
   refine dH ?hg (N := 3) ?hd (cs := #[.slice A l.length c, .bool dn, .int .i64 fu, .int .i64 fa]) (t := 27) ?hr ?_;
   (case hd => rfl); (case hg => rfl); (case hr => first | (go_simp; done) | (go_simp; rfl));
   intro g3 hg w1 hbox hb;
   have n0_ := aA.mk (bC HB.out hb); have n1_ := aA.mk (show w.heap.size ≤ g3 by rw [hg]; exact HB.out.size);
   clear HB; have HB := n0_; have G3 := n1_; have BK3 := aA.mk hbox; clear n0_ n1_ hg hbox hb)
 |((with_reducible refine aN (N := 6) rfl ?_);
   refine dH ?hg (N := 6) ?hd (cs := #[.slice none 0 0, .bool false, .int .i64 0, .int .i64 0]) (t := 27) ?hr ?_;
   (case hd => rfl); (case hg => rfl); (case hr => first | (go_simp; done) | (go_simp; rfl));
   intro g6 hg w2 hbox hb;
   have n0_ := aA.mk (bC HB.out hb); have n1_ := aA.mk (show w.heap.size ≤ g6 by rw [hg]; exact HB.out.size);
   have n2_ := aA.mk (bG BK3.out hb); have n3_ := aA.mk (show g3 ≠ g6 by rw [hg]; exact Nat.ne_of_lt (fZ BK3.out));
   clear HB BK3; have HB := n0_; have G6 := n1_; have BK3 := n2_; have N36 := n3_; have BK6 := aA.mk hbox; clear n0_ n1_ n2_ n3_ hg hbox hb;
   have qfr : w2.cell? ⟨g3, 0, none⟩ = some (.slice A l.length c) := (aG BK3.out 0).trans rfl;
   have qfs : w2.cell? ⟨g3, 1, none⟩ = some (.bool dn) := (aG BK3.out 1).trans rfl;
   have qft : w2.cell? ⟨g3, 2, none⟩ = some (.int .i64 fu) := (aG BK3.out 2).trans rfl;
   have qfu : w2.cell? ⟨g3, 3, none⟩ = some (.int .i64 fa) := (aG BK3.out 3).trans rfl)
 |fail)
 by_cases hok : bI l = true
 ·have hle : l.length ≤ 64 := by
   simp only [bI, Bool.and_eq_true, decide_eq_true_eq] at hok
   exact hok.2
  have HOK := aA.mk hok
  refine ((dN.calls A c l dn fu fa 0 w2 (Kd.fC HR.out HB.out) hc (by rw [dN.f, if_pos hok])).mono ?_)
  clear hok
  rintro e w3 ⟨rfl, hb⟩
  have n0_ := aA.mk (bC HB.out hb); have n1_ := aA.mk (bG BK3.out hb); have n2_ := aA.mk (bG BK6.out hb)
  clear HB BK3 BK6 qfr qfs qft qfu; have HB := n0_; have BK3 := n1_; have BK6 := n2_; clear n0_ n1_ n2_ hb
  have ca0 : w3.cell? ⟨g3, 0, none⟩ = some (Value.slice A l.length c) := (aG BK3.out 0).trans rfl
  have fa0 := aC BK3.out 0
  have ca1 : w3.cell? ⟨g3, 1, none⟩ = some (Value.bool dn) := (aG BK3.out 1).trans rfl
  have fa1 := aC BK3.out 1
  have ca2 : w3.cell? ⟨g3, 2, none⟩ = some (Value.int .i64 fu) := (aG BK3.out 2).trans rfl
  have fa2 := aC BK3.out 2
  have ca3 : w3.cell? ⟨g3, 3, none⟩ = some (Value.int .i64 fa) := (aG BK3.out 3).trans rfl
  have fa3 := aC BK3.out 3
  go_wp2_with fail
  refine ((pK.calls A c l l w3 (Kd.fC HR.out HB.out) hc (by rw [pK.f, if_pos (by omega)])).mono ?_)
  rintro e w4 ⟨v, rfl, ho, hb⟩
  have n0_ := aA.mk (bC HB.out hb); have n1_ := aA.mk (bG BK3.out hb); have n2_ := aA.mk (bG BK6.out hb); have HO := aA.mk (Kd.rO ho HB.out.size)
  clear HB BK3 BK6; clear ca0 fa0 ca1 fa1 ca2 fa2 ca3 fa3; have HB := n0_; have BK3 := n1_; have BK6 := n2_; clear n0_ n1_ n2_ hb ho
  obtain ⟨Ao, co, eo⟩ := Kd.dU HO.out
  subst eo
  have ca0 : w4.cell? ⟨g3, 0, none⟩ = some (Value.slice A l.length c) := (aG BK3.out 0).trans rfl
  have fa0 := aC BK3.out 0
  have ca1 : w4.cell? ⟨g3, 1, none⟩ = some (Value.bool dn) := (aG BK3.out 1).trans rfl
  have fa1 := aC BK3.out 1
  have ca2 : w4.cell? ⟨g3, 2, none⟩ = some (Value.int .i64 fu) := (aG BK3.out 2).trans rfl
  have fa2 := aC BK3.out 2
  have ca3 : w4.cell? ⟨g3, 3, none⟩ = some (Value.int .i64 fa) := (aG BK3.out 3).trans rfl
  have fa3 := aC BK3.out 3
  by_cases hdn : dn = true
  ·subst hdn
   have HE : aA (R = (l, true, fu, fa, 17)) := ⟨by rw [HRR.out, cZ, if_pos HOK.out, if_pos rfl]⟩
   go_wp2_with (first
 |((with_reducible refine aN (N := 26) rfl ?_);
   refine dH ?hg (N := 26) ?hd (cs := #[(.slice Ao l.length co), .bool true, .int .i64 fu, .int .i64 fa]) (t := 211) ?hr ?_;
   (case hd => rfl); (case hg => rfl); (case hr => first | (go_simp; done) | (go_simp; rfl));
   intro gp hg w5 hbox hb;
   have m0_ := bH (g := g3) (j := 0) (v := (.slice Ao l.length co)) HB.out G3.out;
   have m1_ := fQ (cs' := #[(.slice Ao l.length co), .bool true, .int .i64 fu, .int .i64 fa]) BK3.out 0 (.slice Ao l.length co) rfl;
   have m2_ := dB (p := ⟨g3, 0, none⟩) BK6.out (fun e => N36.out e.symm) (.slice Ao l.length co);
   have m3_ := R1 (j := 0) HO.out BK3.out (by decide) (.slice Ao l.length co);
   have n0_ := aA.mk (bC m0_ hb); have n1_ := aA.mk (show w.heap.size ≤ gp by rw [hg]; exact m0_.size);
   have n2_ := aA.mk (bG m1_ hb); have n3_ := aA.mk (bG m2_ hb); have n4_ := aA.mk (Kd.pJ m3_ hb);
   have n5_ := aA.mk (show g3 ≠ gp by rw [hg]; exact Nat.ne_of_lt (fZ m1_)); have n6_ := aA.mk (show g6 ≠ gp by rw [hg]; exact Nat.ne_of_lt (fZ m2_));
   clear ca0 fa0 ca1 fa1 ca2 fa2 ca3 fa3; clear HB BK3 BK6 HO m0_ m1_ m2_ m3_; have HB := n0_; have GP := n1_; have BK3 := n2_; have BK6 := n3_; have HO := n4_; have N3P := n5_; have N6P := n6_; have BKP := aA.mk hbox;
   clear n0_ n1_ n2_ n3_ n4_ n5_ n6_ hg hbox hb;
   have cp0 : w5.cell? ⟨gp, 0, none⟩ = some (Value.slice Ao l.length co) := (aG BKP.out 0).trans rfl;
   have fp0 := aC BKP.out 0;
   have cp1 : w5.cell? ⟨gp, 1, none⟩ = some (Value.bool true) := (aG BKP.out 1).trans rfl;
   have fp1 := aC BKP.out 1;
   have cp2 : w5.cell? ⟨gp, 2, none⟩ = some (Value.int .i64 fu) := (aG BKP.out 2).trans rfl;
   have fp2 := aC BKP.out 2;
   have cp3 : w5.cell? ⟨gp, 3, none⟩ = some (Value.int .i64 fa) := (aG BKP.out 3).trans rfl;
   have fp3 := aC BKP.out 3;
   have ca0 : w5.cell? ⟨g3, 0, none⟩ = some (Value.slice Ao l.length co) := (aG BK3.out 0).trans rfl;
   have fa0 := aC BK3.out 0;
   have ca1 : w5.cell? ⟨g3, 1, none⟩ = some (Value.bool true) := (aG BK3.out 1).trans rfl;
   have fa1 := aC BK3.out 1;
   have ca2 : w5.cell? ⟨g3, 2, none⟩ = some (Value.int .i64 fu) := (aG BK3.out 2).trans rfl;
   have fa2 := aC BK3.out 2;
   have ca3 : w5.cell? ⟨g3, 3, none⟩ = some (Value.int .i64 fa) := (aG BK3.out 3).trans rfl;
   have fa3 := aC BK3.out 3;
   have cb0 : w5.cell? ⟨g6, 0, none⟩ = some (Value.slice none 0 0) := (aG BK6.out 0).trans rfl;
   have fb0 := aC BK6.out 0;
   have cb1 : w5.cell? ⟨g6, 1, none⟩ = some (Value.bool false) := (aG BK6.out 1).trans rfl;
   have fb1 := aC BK6.out 1;
   have cb2 : w5.cell? ⟨g6, 2, none⟩ = some (Value.int .i64 0) := (aG BK6.out 2).trans rfl;
   have fb2 := aC BK6.out 2;
   have cb3 : w5.cell? ⟨g6, 3, none⟩ = some (Value.int .i64 0) := (aG BK6.out 3).trans rfl;
   have fb3 := aC BK6.out 3)
 |fail)
   refine bodyPost_ret (fF rfl _ _ g6 27 #[Value.slice Ao l.length co, Value.bool true, Value.int .i64 fu, Value.int .i64 fa] (0, 0) _ rfl (uV BK6.out _ _ _ _) Tryz.underlying27 rfl (by kernel_rfl)) rfl ?_
   rw [HE.out]
   exact ⟨_, rfl, R4 HO.out BK6.out (by decide) _ _ _ _, kL HB.out G6.out _ _ _ _⟩
  ·have qjk : dn = false := by simpa using hdn
   subst qjk
   clear hdn
   have hK := HK.out
   go_wp2_with (first
 |((with_reducible refine aN (N := 26) rfl ?_);
   refine dH ?hg (N := 26) ?hd (cs := #[(.slice Ao l.length co), .bool false, .int .i64 fu, .int .i64 fa]) (t := 211) ?hr ?_;
   (case hd => rfl); (case hg => rfl); (case hr => first | (go_simp; done) | (go_simp; rfl));
   intro gp hg w5 hbox hb;
   have m0_ := bH (g := g3) (j := 0) (v := (.slice Ao l.length co)) HB.out G3.out;
   have m1_ := fQ (cs' := #[(.slice Ao l.length co), .bool false, .int .i64 fu, .int .i64 fa]) BK3.out 0 (.slice Ao l.length co) rfl;
   have m2_ := dB (p := ⟨g3, 0, none⟩) BK6.out (fun e => N36.out e.symm) (.slice Ao l.length co);
   have m3_ := R1 (j := 0) HO.out BK3.out (by decide) (.slice Ao l.length co);
   have n0_ := aA.mk (bC m0_ hb); have n1_ := aA.mk (show w.heap.size ≤ gp by rw [hg]; exact m0_.size);
   have n2_ := aA.mk (bG m1_ hb); have n3_ := aA.mk (bG m2_ hb); have n4_ := aA.mk (Kd.pJ m3_ hb);
   have n5_ := aA.mk (show g3 ≠ gp by rw [hg]; exact Nat.ne_of_lt (fZ m1_)); have n6_ := aA.mk (show g6 ≠ gp by rw [hg]; exact Nat.ne_of_lt (fZ m2_));
   clear ca0 fa0 ca1 fa1 ca2 fa2 ca3 fa3; clear HB BK3 BK6 HO m0_ m1_ m2_ m3_; have HB := n0_; have GP := n1_; have BK3 := n2_; have BK6 := n3_; have HO := n4_; have N3P := n5_; have N6P := n6_; have BKP := aA.mk hbox;
   clear n0_ n1_ n2_ n3_ n4_ n5_ n6_ hg hbox hb;
   have cp0 : w5.cell? ⟨gp, 0, none⟩ = some (Value.slice Ao l.length co) := (aG BKP.out 0).trans rfl;
   have fp0 := aC BKP.out 0;
   have cp1 : w5.cell? ⟨gp, 1, none⟩ = some (Value.bool false) := (aG BKP.out 1).trans rfl;
   have fp1 := aC BKP.out 1;
   have cp2 : w5.cell? ⟨gp, 2, none⟩ = some (Value.int .i64 fu) := (aG BKP.out 2).trans rfl;
   have fp2 := aC BKP.out 2;
   have cp3 : w5.cell? ⟨gp, 3, none⟩ = some (Value.int .i64 fa) := (aG BKP.out 3).trans rfl;
   have fp3 := aC BKP.out 3;
   have ca0 : w5.cell? ⟨g3, 0, none⟩ = some (Value.slice Ao l.length co) := (aG BK3.out 0).trans rfl;
   have fa0 := aC BK3.out 0;
   have ca1 : w5.cell? ⟨g3, 1, none⟩ = some (Value.bool false) := (aG BK3.out 1).trans rfl;
   have fa1 := aC BK3.out 1;
   have ca2 : w5.cell? ⟨g3, 2, none⟩ = some (Value.int .i64 fu) := (aG BK3.out 2).trans rfl;
   have fa2 := aC BK3.out 2;
   have ca3 : w5.cell? ⟨g3, 3, none⟩ = some (Value.int .i64 fa) := (aG BK3.out 3).trans rfl;
   have fa3 := aC BK3.out 3)
 |fail)
   rw [hK _ _, Oper.upon_enter]
   refine ((qjj.out w5 gp _ HB.out GP.out BKP.out HO.out HOK.out).mono ?_)
   clear hK
   rintro e w6 ⟨rv, dv, rfl, hb, ⟨Kr, cr, rfl, hKr, hrf⟩, ⟨Kd_, cd, rfl, hKd, hdo⟩⟩
   have HKr := aA.mk hKr
   have HKd := aA.mk hKd
   have Hrf := aA.mk hrf
   have Hdo := aA.mk hdo
   have n0_ := aA.mk (bC HB.out hb); have n1_ := aA.mk (bG BK3.out hb); have n2_ := aA.mk (bG BK6.out hb)
   have n3_ := aA.mk (bG BKP.out hb); have n4_ := aA.mk (Kd.pJ HO.out hb)
   clear HB BK3 BK6 BKP HO hKr hKd hrf hdo; clear ca0 fa0 ca1 fa1 ca2 fa2 ca3 fa3; clear cp0 fp0 cp1 fp1 cp2 fp2 cp3 fp3; have HB := n0_; have BK3 := n1_; have BK6 := n2_; have BKP := n3_; have HO := n4_; clear n0_ n1_ n2_ n3_ n4_ hb
   go_wp2_with (first
 |((with_reducible refine aN (N := 10) rfl ?_);
   refine dH ?hg (N := 10) ?hd (cs := #[.nilFunc, .nilFunc, .bool false]) (t := 179) ?hr ?_;
   (case hd => rfl); (case hg => rfl); (case hr => first | (go_simp; done) | (go_simp; rfl));
   intro gc hg w7 hbox hb;
   have n0_ := aA.mk (bC HB.out hb); have n1_ := aA.mk (show w.heap.size ≤ gc by rw [hg]; exact HB.out.size);
   have n2_ := aA.mk (bG BK3.out hb); have n3_ := aA.mk (bG BK6.out hb); have n4_ := aA.mk (bG BKP.out hb); have n5_ := aA.mk (Kd.pJ HO.out hb);
   have n6_ := aA.mk (show g3 ≠ gc by rw [hg]; exact Nat.ne_of_lt (fZ BK3.out)); have n7_ := aA.mk (show g6 ≠ gc by rw [hg]; exact Nat.ne_of_lt (fZ BK6.out)); have n8_ := aA.mk (show gp ≠ gc by rw [hg]; exact Nat.ne_of_lt (fZ BKP.out));
   have n9_ := aA.mk (show w6.heap.size ≤ gc by rw [hg]; exact Nat.le_refl _);
   have H6 := aA.mk hb;
   clear HB BK3 BK6 BKP HO; have HB := n0_; have GC := n1_; have BK3 := n2_; have BK6 := n3_; have BKP := n4_; have HO := n5_; have N3C := n6_; have N6C := n7_; have NPC := n8_; have GC6 := n9_; have BKC := aA.mk hbox;
   clear n0_ n1_ n2_ n3_ n4_ n5_ n6_ n7_ n8_ n9_ hg hbox hb;
   have hq1 : g3 ≠ gc := N3C.out; have hq2 : gc ≠ g3 := fun e => N3C.out e.symm;
   have ca0 : w7.cell? ⟨g3, 0, none⟩ = some (Value.slice Ao l.length co) := (aG BK3.out 0).trans rfl;
   have fa0 := aC BK3.out 0;
   have ca1 : w7.cell? ⟨g3, 1, none⟩ = some (Value.bool false) := (aG BK3.out 1).trans rfl;
   have fa1 := aC BK3.out 1;
   have ca2 : w7.cell? ⟨g3, 2, none⟩ = some (Value.int .i64 fu) := (aG BK3.out 2).trans rfl;
   have fa2 := aC BK3.out 2;
   have ca3 : w7.cell? ⟨g3, 3, none⟩ = some (Value.int .i64 fa) := (aG BK3.out 3).trans rfl;
   have fa3 := aC BK3.out 3;
   have cc0 : w7.cell? ⟨gc, 0, none⟩ = some (Value.nilFunc) := (aG BKC.out 0).trans rfl;
   have fc0 := aC BKC.out 0;
   have cc1 : w7.cell? ⟨gc, 1, none⟩ = some (Value.nilFunc) := (aG BKC.out 1).trans rfl;
   have fc1 := aC BKC.out 1;
   have cc2 : w7.cell? ⟨gc, 2, none⟩ = some (Value.bool false) := (aG BKC.out 2).trans rfl;
   have fc2 := aC BKC.out 2)
 |fail)
   clear hq1 hq2
   have k0 := below3 HB.out GC.out (.func (.func Kr) #[] cr) (.func (.func Kd_) #[] cd) (.bool wr)
   have k1 := qfS BK3.out N3C.out (.func (.func Kr) #[] cr) (.func (.func Kd_) #[] cd) (.bool wr)
   have k2 := qfS BK6.out N6C.out (.func (.func Kr) #[] cr) (.func (.func Kd_) #[] cd) (.bool wr)
   have k3 := qfS BKP.out NPC.out (.func (.func Kr) #[] cr) (.func (.func Kd_) #[] cd) (.bool wr)
   have k4 := qer BKC.out (.func (.func Kr) #[] cr) (.func (.func Kd_) #[] cd) (.bool wr)
   have k5 := R3 HO.out BKC.out (by decide) (.func (.func Kr) #[] cr) (.func (.func Kd_) #[] cd) (.bool wr)
   have k6 := below3 H6.out GC6.out (.func (.func Kr) #[] cr) (.func (.func Kd_) #[] cd) (.bool wr)
   have k7 := (Kd.F5 k5)
   obtain ⟨A7, c7, he7, hl7, hr7⟩ := k7
   obtain ⟨rfl, rfl⟩ : A7 = Ao ∧ c7 = co := by injection he7 with e1 _ e2; exact ⟨e1.symm, e2.symm⟩
   clear he7
   refine ((sO.calls A7 c7 l false fu fa name _ _ _ hr7 hl7 (by rw [sO.f, if_pos hle])).mono ?_)
   rintro e w9 ⟨rfl, hb⟩
   obtain ⟨i, hi⟩ : ∃ i, i = bsOf l name := ⟨_, rfl⟩
   rw [← hi]
   obtain ⟨b, hbe⟩ : ∃ b, b = lI l name i := ⟨_, rfl⟩
   rw [← hbe]
   have HI := aA.mk hi
   have HBE := aA.mk hbe
   have hil : i ≤ l.length := by rw [hi]; exact (NK l name _ _ _ (Nat.zero_le _)).2
   have hib : aA (b = true → i < l.length) := ⟨fun h => by
    rw [hbe, lI, Bool.and_eq_true, decide_eq_true_eq] at h
    exact h.1⟩
   clear hi hbe hl7 hr7
   have n0_ := aA.mk (bC k0 hb); have n1_ := aA.mk (bG k1 hb); have n2_ := aA.mk (bG k2 hb); have n3_ := aA.mk (bG k3 hb); have n4_ := aA.mk (bG k4 hb); have n5_ := aA.mk (Kd.pJ k5 hb); have n6_ := aA.mk (bC k6 hb)
   clear HB BK3 BK6 BKP BKC HO H6 k0 k1 k2 k3 k4 k5 k6; clear ca0 fa0 ca1 fa1 ca2 fa2 ca3 fa3; clear cc0 fc0 cc1 fc1 cc2 fc2; have HB := n0_; have BK3 := n1_; have BK6 := n2_; have BKP := n3_; have BKC := n4_; have HO := n5_; have H6 := n6_; clear n0_ n1_ n2_ n3_ n4_ n5_ n6_ hb
   have cc0 : w9.cell? ⟨gc, 0, none⟩ = some (Value.func (.func Kr) #[] cr) := (aG BKC.out 0).trans rfl
   have fc0 := aC BKC.out 0
   have cc1 : w9.cell? ⟨gc, 1, none⟩ = some (Value.func (.func Kd_) #[] cd) := (aG BKC.out 1).trans rfl
   have fc1 := aC BKC.out 1
   have cc2 : w9.cell? ⟨gc, 2, none⟩ = some (Value.bool wr) := (aG BKC.out 2).trans rfl
   have fc2 := aC BKC.out 2
   have hKr := HKr.out
   go_wp2_with fail
   rw [hKr _ _, Oper.upon_enter]
   clear hKr
   refine ((Hrf.out w9 i b (uU.of_below H6.out) hil hib.out).mono ?_)
   rintro e w10 ⟨rfl, hb⟩
   obtain ⟨r, hr⟩ : ∃ r, r = rf (i : Int) b := ⟨_, rfl⟩
   rw [← hr]
   have HRF := aA.mk hr
   clear hr
   have n0_ := aA.mk (bC HB.out hb); have n1_ := aA.mk (bG BK3.out hb); have n2_ := aA.mk (bG BK6.out hb); have n3_ := aA.mk (bG BKP.out hb); have n4_ := aA.mk (bG BKC.out hb); have n5_ := aA.mk (Kd.pJ HO.out hb); have n6_ := aA.mk (bC H6.out hb)
   clear HB BK3 BK6 BKP BKC HO H6; clear cc0 fc0 cc1 fc1 cc2 fc2; have HB := n0_; have BK3 := n1_; have BK6 := n2_; have BKP := n3_; have BKC := n4_; have HO := n5_; have H6 := n6_; clear n0_ n1_ n2_ n3_ n4_ n5_ n6_ hb
   have ca0 : w10.cell? ⟨g3, 0, none⟩ = some (Value.slice A7 l.length c7) := (aG BK3.out 0).trans rfl
   have fa0 := aC BK3.out 0
   have ca1 : w10.cell? ⟨g3, 1, none⟩ = some (Value.bool false) := (aG BK3.out 1).trans rfl
   have fa1 := aC BK3.out 1
   have ca2 : w10.cell? ⟨g3, 2, none⟩ = some (Value.int .i64 fu) := (aG BK3.out 2).trans rfl
   have fa2 := aC BK3.out 2
   have ca3 : w10.cell? ⟨g3, 3, none⟩ = some (Value.int .i64 fa) := (aG BK3.out 3).trans rfl
   have fa3 := aC BK3.out 3
   have cb0 : w10.cell? ⟨g6, 0, none⟩ = some (Value.slice none 0 0) := (aG BK6.out 0).trans rfl
   have fb0 := aC BK6.out 0
   have cb1 : w10.cell? ⟨g6, 1, none⟩ = some (Value.bool false) := (aG BK6.out 1).trans rfl
   have fb1 := aC BK6.out 1
   have cb2 : w10.cell? ⟨g6, 2, none⟩ = some (Value.int .i64 0) := (aG BK6.out 2).trans rfl
   have fb2 := aC BK6.out 2
   have cb3 : w10.cell? ⟨g6, 3, none⟩ = some (Value.int .i64 0) := (aG BK6.out 3).trans rfl
   have fb3 := aC BK6.out 3
   have cp0 : w10.cell? ⟨gp, 0, none⟩ = some (Value.slice A7 l.length c7) := (aG BKP.out 0).trans rfl
   have fp0 := aC BKP.out 0
   have cp1 : w10.cell? ⟨gp, 1, none⟩ = some (Value.bool false) := (aG BKP.out 1).trans rfl
   have fp1 := aC BKP.out 1
   have cp2 : w10.cell? ⟨gp, 2, none⟩ = some (Value.int .i64 fu) := (aG BKP.out 2).trans rfl
   have fp2 := aC BKP.out 2
   have cp3 : w10.cell? ⟨gp, 3, none⟩ = some (Value.int .i64 fa) := (aG BKP.out 3).trans rfl
   have fp3 := aC BKP.out 3
   have cc0 : w10.cell? ⟨gc, 0, none⟩ = some (Value.func (.func Kr) #[] cr) := (aG BKC.out 0).trans rfl
   have fc0 := aC BKC.out 0
   have cc1 : w10.cell? ⟨gc, 1, none⟩ = some (Value.func (.func Kd_) #[] cd) := (aG BKC.out 1).trans rfl
   have fc1 := aC BKC.out 1
   have cc2 : w10.cell? ⟨gc, 2, none⟩ = some (Value.bool wr) := (aG BKC.out 2).trans rfl
   have fc2 := aC BKC.out 2
   by_cases hr0 : r = 0
   ·subst hr0
    have q1 : g3 ≠ gp := N3P.out
    have q2 : gp ≠ g3 := fun e => N3P.out e.symm
    have q3 : g6 ≠ gp := N6P.out
    have q4 : gp ≠ g6 := fun e => N6P.out e.symm
    have q5 : gp ≠ gc := NPC.out
    have q6 : gc ≠ gp := fun e => NPC.out e.symm
    by_cases hf0 : fa = 0
    ·have hf1 : (fa == 0) = true := by simpa using hf0
     have HE : aA (R = (l, false, fu, -1, 18)) := ⟨by rw [HRR.out, cZ, if_pos HOK.out, if_neg (by decide), ← HI.out, ← HBE.out, ← HRF.out, if_pos rfl, if_pos hf0]⟩
     go_wp2
     refine bodyPost_ret (fF rfl _ _ g6 27 #[Value.slice A7 l.length c7, Value.bool false, Value.int .i64 fu, Value.int .i64 (-1)] (0, 0) _ rfl (uV (dB (p := ⟨gp, 3, none⟩) BK6.out N6P.out (Value.int .i64 (-1))) _ _ _ _) Tryz.underlying27 rfl (by kernel_rfl)) rfl ?_
     rw [HE.out]
     exact ⟨_, rfl, R4 (R1 (j := 3) HO.out BKP.out (by decide) (Value.int .i64 (-1))) (dB (p := ⟨gp, 3, none⟩) BK6.out N6P.out (Value.int .i64 (-1))) (by decide) _ _ _ _, kL (bH (j := 3) (v := Value.int .i64 (-1)) HB.out GP.out) G6.out _ _ _ _⟩
    ·have hf1 : (fa == 0) = false := by simpa using hf0
     by_cases hfp : 0 < fa
     ·have hfd : decide (0 < fa) = true := by simpa using hfp
      by_cases hu0 : fu = 0
      ·have hu1 : (fu == 0) = true := by simpa using hu0
       have HU0 := aA.mk hu0
       clear hu0
       cases wr with
       | true =>
        have HE : aA (R = (df (i : Int), true, fu, wrap64 (fa - 1), 17)) := ⟨by rw [HRR.out, cZ, if_pos HOK.out, if_neg (by decide), ← HI.out, ← HBE.out, ← HRF.out, if_pos rfl, if_neg hf0, if_pos HU0.out, if_pos rfl, if_pos hfp]⟩
        have hKd := HKd.out
        go_wp2_with fail
        rw [hKd _ _, Oper.upon_enter]
        clear hKd
        have k0 := (dB (p := ⟨gp, 1, none⟩) (dB (p := ⟨gp, 3, none⟩) BK6.out N6P.out (Value.int .i64 (wrap64 (fa - 1)))) N6P.out (Value.bool true))
        have k1 := (bH (j := 1) (v := Value.bool true) (bH (j := 3) (v := Value.int .i64 (wrap64 (fa - 1))) HB.out GP.out) GP.out)
        refine ((Hdo.out ((w10.setCell ⟨gp, 3, none⟩ (Value.int .i64 (wrap64 (fa - 1)))).setCell ⟨gp, 1, none⟩ (Value.bool true)) i b _ _ _ (uU.vO (fB.VO (fB.VO (fB.of_below H6.out gp none) 3 (Value.int .i64 (wrap64 (fa - 1)))) 1 (Value.bool true))) hil hib.out HRF.out.symm (fQ (cs' := #[Value.slice A7 l.length c7, Value.bool true, Value.int .i64 fu, Value.int .i64 (wrap64 (fa - 1))]) (fQ (cs' := #[Value.slice A7 l.length c7, Value.bool false, Value.int .i64 fu, Value.int .i64 (wrap64 (fa - 1))]) BKP.out 3 (Value.int .i64 (wrap64 (fa - 1))) rfl) 1 (Value.bool true) rfl) (R1 (j := 1) (R1 (j := 3) HO.out BKP.out (by decide) (Value.int .i64 (wrap64 (fa - 1)))) (fQ (cs' := #[Value.slice A7 l.length c7, Value.bool false, Value.int .i64 fu, Value.int .i64 (wrap64 (fa - 1))]) BKP.out 3 (Value.int .i64 (wrap64 (fa - 1))) rfl) (by decide) (Value.bool true))).mono ?_)
        rintro e w12 ⟨rfl, v', hp', ho', hb', h24⟩
        obtain ⟨A8, c8, e8⟩ := Kd.dU ho'
        subst e8
        have n0_ := aA.mk (k1.trans hb'); have n1_ := aA.mk (h24 g6 _ k0); have n2_ := aA.mk hp'; have n3_ := aA.mk ho'
        clear BK3 BKP BKC BK6 HB HO H6 k0 k1 hp' ho' hb' h24; clear ca0 fa0 ca1 fa1 ca2 fa2 ca3 fa3; clear cb0 fb0 cb1 fb1 cb2 fb2 cb3 fb3; clear cp0 fp0 cp1 fp1 cp2 fp2 cp3 fp3; clear cc0 fc0 cc1 fc1 cc2 fc2
        have HB := n0_; have BK6 := n1_; have BKP := n2_; have HO := n3_; clear n0_ n1_ n2_ n3_
        have cp0 : w12.cell? ⟨gp, 0, none⟩ = some (Value.slice A8 (df (i : Int)).length c8) := (aG BKP.out 0).trans rfl
        have fp0 := aC BKP.out 0
        have cp1 : w12.cell? ⟨gp, 1, none⟩ = some (Value.bool true) := (aG BKP.out 1).trans rfl
        have fp1 := aC BKP.out 1
        have cp2 : w12.cell? ⟨gp, 2, none⟩ = some (Value.int .i64 fu) := (aG BKP.out 2).trans rfl
        have fp2 := aC BKP.out 2
        have cp3 : w12.cell? ⟨gp, 3, none⟩ = some (Value.int .i64 (wrap64 (fa - 1))) := (aG BKP.out 3).trans rfl
        have fp3 := aC BKP.out 3
        have cb0 : w12.cell? ⟨g6, 0, none⟩ = some (Value.slice none 0 0) := (aG BK6.out 0).trans rfl
        have fb0 := aC BK6.out 0
        have cb1 : w12.cell? ⟨g6, 1, none⟩ = some (Value.bool false) := (aG BK6.out 1).trans rfl
        have fb1 := aC BK6.out 1
        have cb2 : w12.cell? ⟨g6, 2, none⟩ = some (Value.int .i64 0) := (aG BK6.out 2).trans rfl
        have fb2 := aC BK6.out 2
        have cb3 : w12.cell? ⟨g6, 3, none⟩ = some (Value.int .i64 0) := (aG BK6.out 3).trans rfl
        have fb3 := aC BK6.out 3
        go_wp2
        refine bodyPost_ret (fF rfl _ _ g6 27 #[Value.slice A8 (df (i : Int)).length c8, Value.bool true, Value.int .i64 fu, Value.int .i64 (wrap64 (fa - 1))] (0, 0) _ rfl (uV BK6.out _ _ _ _) Tryz.underlying27 rfl (by kernel_rfl)) rfl ?_
        rw [HE.out]
        exact ⟨_, rfl, R4 HO.out BK6.out (by decide) _ _ _ _, kL HB.out G6.out _ _ _ _⟩
       | false =>
        have HE : aA (R = (l, true, fu, wrap64 (fa - 1), 17)) := ⟨by rw [HRR.out, cZ, if_pos HOK.out, if_neg (by decide), ← HI.out, ← HBE.out, ← HRF.out, if_pos rfl, if_neg hf0, if_pos HU0.out, if_neg (by decide), if_pos hfp]⟩
        go_wp2
        refine bodyPost_ret (fF rfl _ _ g6 27 #[Value.slice A7 l.length c7, Value.bool true, Value.int .i64 fu, Value.int .i64 (wrap64 (fa - 1))] (0, 0) _ rfl (uV (dB (p := ⟨gp, 1, none⟩) (dB (p := ⟨gp, 3, none⟩) BK6.out N6P.out (Value.int .i64 (wrap64 (fa - 1)))) N6P.out (Value.bool true)) _ _ _ _) Tryz.underlying27 rfl (by kernel_rfl)) rfl ?_
        rw [HE.out]
        exact ⟨_, rfl, R4 (R1 (j := 1) (R1 (j := 3) HO.out BKP.out (by decide) (Value.int .i64 (wrap64 (fa - 1)))) (fQ (cs' := #[Value.slice A7 l.length c7, Value.bool false, Value.int .i64 fu, Value.int .i64 (wrap64 (fa - 1))]) BKP.out 3 (Value.int .i64 (wrap64 (fa - 1))) rfl) (by decide) (Value.bool true)) (dB (p := ⟨gp, 1, none⟩) (dB (p := ⟨gp, 3, none⟩) BK6.out N6P.out (Value.int .i64 (wrap64 (fa - 1)))) N6P.out (Value.bool true)) (by decide) _ _ _ _, kL (bH (j := 1) (v := Value.bool true) (bH (j := 3) (v := Value.int .i64 (wrap64 (fa - 1))) HB.out GP.out) GP.out) G6.out _ _ _ _⟩
      ·have hu1 : (fu == 0) = false := by simpa using hu0
       by_cases hup : 0 < fu
       ·have hud : decide (0 < fu) = true := by simpa using hup
        have HE : aA (R = (df (i : Int), false, wrap64 (fu - 1), wrap64 (fa - 1), 0)) := ⟨by rw [HRR.out, cZ, if_pos HOK.out, if_neg (by decide), ← HI.out, ← HBE.out, ← HRF.out, if_pos rfl, if_neg hf0, if_neg hu0, if_pos hup, if_pos hfp]⟩
        have hKd := HKd.out
        go_wp2_with fail
        rw [hKd _ _, Oper.upon_enter]
        clear hKd
        have k0 := (dB (p := ⟨gp, 2, none⟩) (dB (p := ⟨gp, 3, none⟩) BK6.out N6P.out (Value.int .i64 (wrap64 (fa - 1)))) N6P.out (Value.int .i64 (wrap64 (fu - 1))))
        have k1 := (bH (j := 2) (v := Value.int .i64 (wrap64 (fu - 1))) (bH (j := 3) (v := Value.int .i64 (wrap64 (fa - 1))) HB.out GP.out) GP.out)
        refine ((Hdo.out ((w10.setCell ⟨gp, 3, none⟩ (Value.int .i64 (wrap64 (fa - 1)))).setCell ⟨gp, 2, none⟩ (Value.int .i64 (wrap64 (fu - 1)))) i b _ _ _ (uU.vO (fB.VO (fB.VO (fB.of_below H6.out gp none) 3 (Value.int .i64 (wrap64 (fa - 1)))) 2 (Value.int .i64 (wrap64 (fu - 1))))) hil hib.out HRF.out.symm (fQ (cs' := #[Value.slice A7 l.length c7, Value.bool false, Value.int .i64 (wrap64 (fu - 1)), Value.int .i64 (wrap64 (fa - 1))]) (fQ (cs' := #[Value.slice A7 l.length c7, Value.bool false, Value.int .i64 fu, Value.int .i64 (wrap64 (fa - 1))]) BKP.out 3 (Value.int .i64 (wrap64 (fa - 1))) rfl) 2 (Value.int .i64 (wrap64 (fu - 1))) rfl) (R1 (j := 2) (R1 (j := 3) HO.out BKP.out (by decide) (Value.int .i64 (wrap64 (fa - 1)))) (fQ (cs' := #[Value.slice A7 l.length c7, Value.bool false, Value.int .i64 fu, Value.int .i64 (wrap64 (fa - 1))]) BKP.out 3 (Value.int .i64 (wrap64 (fa - 1))) rfl) (by decide) (Value.int .i64 (wrap64 (fu - 1))))).mono ?_)
        rintro e w12 ⟨rfl, v', hp', ho', hb', h24⟩
        obtain ⟨A8, c8, e8⟩ := Kd.dU ho'
        subst e8
        have n0_ := aA.mk (k1.trans hb'); have n1_ := aA.mk (h24 g6 _ k0); have n2_ := aA.mk hp'; have n3_ := aA.mk ho'
        clear BK3 BKP BKC BK6 HB HO H6 k0 k1 hp' ho' hb' h24; clear ca0 fa0 ca1 fa1 ca2 fa2 ca3 fa3; clear cb0 fb0 cb1 fb1 cb2 fb2 cb3 fb3; clear cp0 fp0 cp1 fp1 cp2 fp2 cp3 fp3; clear cc0 fc0 cc1 fc1 cc2 fc2
        have HB := n0_; have BK6 := n1_; have BKP := n2_; have HO := n3_; clear n0_ n1_ n2_ n3_
        have cp0 : w12.cell? ⟨gp, 0, none⟩ = some (Value.slice A8 (df (i : Int)).length c8) := (aG BKP.out 0).trans rfl
        have fp0 := aC BKP.out 0
        have cp1 : w12.cell? ⟨gp, 1, none⟩ = some (Value.bool false) := (aG BKP.out 1).trans rfl
        have fp1 := aC BKP.out 1
        have cp2 : w12.cell? ⟨gp, 2, none⟩ = some (Value.int .i64 (wrap64 (fu - 1))) := (aG BKP.out 2).trans rfl
        have fp2 := aC BKP.out 2
        have cp3 : w12.cell? ⟨gp, 3, none⟩ = some (Value.int .i64 (wrap64 (fa - 1))) := (aG BKP.out 3).trans rfl
        have fp3 := aC BKP.out 3
        have cb0 : w12.cell? ⟨g6, 0, none⟩ = some (Value.slice none 0 0) := (aG BK6.out 0).trans rfl
        have fb0 := aC BK6.out 0
        have cb1 : w12.cell? ⟨g6, 1, none⟩ = some (Value.bool false) := (aG BK6.out 1).trans rfl
        have fb1 := aC BK6.out 1
        have cb2 : w12.cell? ⟨g6, 2, none⟩ = some (Value.int .i64 0) := (aG BK6.out 2).trans rfl
        have fb2 := aC BK6.out 2
        have cb3 : w12.cell? ⟨g6, 3, none⟩ = some (Value.int .i64 0) := (aG BK6.out 3).trans rfl
        have fb3 := aC BK6.out 3
        go_wp2
        refine bodyPost_ret (fF rfl _ _ g6 27 #[Value.slice A8 (df (i : Int)).length c8, Value.bool false, Value.int .i64 (wrap64 (fu - 1)), Value.int .i64 (wrap64 (fa - 1))] (0, 0) _ rfl (uV BK6.out _ _ _ _) Tryz.underlying27 rfl (by kernel_rfl)) rfl ?_
        rw [HE.out]
        exact ⟨_, rfl, R4 HO.out BK6.out (by decide) _ _ _ _, kL HB.out G6.out _ _ _ _⟩
       ·have hud : decide (0 < fu) = false := by simpa using hup
        have HE : aA (R = (df (i : Int), false, fu, wrap64 (fa - 1), 0)) := ⟨by rw [HRR.out, cZ, if_pos HOK.out, if_neg (by decide), ← HI.out, ← HBE.out, ← HRF.out, if_pos rfl, if_neg hf0, if_neg hu0, if_neg hup, if_pos hfp]⟩
        have hKd := HKd.out
        go_wp2_with fail
        rw [hKd _ _, Oper.upon_enter]
        clear hKd
        have k0 := (dB (p := ⟨gp, 3, none⟩) BK6.out N6P.out (Value.int .i64 (wrap64 (fa - 1))))
        have k1 := (bH (j := 3) (v := Value.int .i64 (wrap64 (fa - 1))) HB.out GP.out)
        refine ((Hdo.out (w10.setCell ⟨gp, 3, none⟩ (Value.int .i64 (wrap64 (fa - 1)))) i b _ _ _ (uU.vO (fB.VO (fB.of_below H6.out gp none) 3 (Value.int .i64 (wrap64 (fa - 1))))) hil hib.out HRF.out.symm (fQ (cs' := #[Value.slice A7 l.length c7, Value.bool false, Value.int .i64 fu, Value.int .i64 (wrap64 (fa - 1))]) BKP.out 3 (Value.int .i64 (wrap64 (fa - 1))) rfl) (R1 (j := 3) HO.out BKP.out (by decide) (Value.int .i64 (wrap64 (fa - 1))))).mono ?_)
        rintro e w12 ⟨rfl, v', hp', ho', hb', h24⟩
        obtain ⟨A8, c8, e8⟩ := Kd.dU ho'
        subst e8
        have n0_ := aA.mk (k1.trans hb'); have n1_ := aA.mk (h24 g6 _ k0); have n2_ := aA.mk hp'; have n3_ := aA.mk ho'
        clear BK3 BKP BKC BK6 HB HO H6 k0 k1 hp' ho' hb' h24; clear ca0 fa0 ca1 fa1 ca2 fa2 ca3 fa3; clear cb0 fb0 cb1 fb1 cb2 fb2 cb3 fb3; clear cp0 fp0 cp1 fp1 cp2 fp2 cp3 fp3; clear cc0 fc0 cc1 fc1 cc2 fc2
        have HB := n0_; have BK6 := n1_; have BKP := n2_; have HO := n3_; clear n0_ n1_ n2_ n3_
        have cp0 : w12.cell? ⟨gp, 0, none⟩ = some (Value.slice A8 (df (i : Int)).length c8) := (aG BKP.out 0).trans rfl
        have fp0 := aC BKP.out 0
        have cp1 : w12.cell? ⟨gp, 1, none⟩ = some (Value.bool false) := (aG BKP.out 1).trans rfl
        have fp1 := aC BKP.out 1
        have cp2 : w12.cell? ⟨gp, 2, none⟩ = some (Value.int .i64 fu) := (aG BKP.out 2).trans rfl
        have fp2 := aC BKP.out 2
        have cp3 : w12.cell? ⟨gp, 3, none⟩ = some (Value.int .i64 (wrap64 (fa - 1))) := (aG BKP.out 3).trans rfl
        have fp3 := aC BKP.out 3
        have cb0 : w12.cell? ⟨g6, 0, none⟩ = some (Value.slice none 0 0) := (aG BK6.out 0).trans rfl
        have fb0 := aC BK6.out 0
        have cb1 : w12.cell? ⟨g6, 1, none⟩ = some (Value.bool false) := (aG BK6.out 1).trans rfl
        have fb1 := aC BK6.out 1
        have cb2 : w12.cell? ⟨g6, 2, none⟩ = some (Value.int .i64 0) := (aG BK6.out 2).trans rfl
        have fb2 := aC BK6.out 2
        have cb3 : w12.cell? ⟨g6, 3, none⟩ = some (Value.int .i64 0) := (aG BK6.out 3).trans rfl
        have fb3 := aC BK6.out 3
        go_wp2
        refine bodyPost_ret (fF rfl _ _ g6 27 #[Value.slice A8 (df (i : Int)).length c8, Value.bool false, Value.int .i64 fu, Value.int .i64 (wrap64 (fa - 1))] (0, 0) _ rfl (uV BK6.out _ _ _ _) Tryz.underlying27 rfl (by kernel_rfl)) rfl ?_
        rw [HE.out]
        exact ⟨_, rfl, R4 HO.out BK6.out (by decide) _ _ _ _, kL HB.out G6.out _ _ _ _⟩
     ·have hfd : decide (0 < fa) = false := by simpa using hfp
      by_cases hu0 : fu = 0
      ·have hu1 : (fu == 0) = true := by simpa using hu0
       have HU0 := aA.mk hu0
       clear hu0
       cases wr with
       | true =>
        have HE : aA (R = (df (i : Int), true, fu, fa, 17)) := ⟨by rw [HRR.out, cZ, if_pos HOK.out, if_neg (by decide), ← HI.out, ← HBE.out, ← HRF.out, if_pos rfl, if_neg hf0, if_pos HU0.out, if_pos rfl, if_neg hfp]⟩
        have hKd := HKd.out
        go_wp2_with fail
        rw [hKd _ _, Oper.upon_enter]
        clear hKd
        have k0 := (dB (p := ⟨gp, 1, none⟩) BK6.out N6P.out (Value.bool true))
        have k1 := (bH (j := 1) (v := Value.bool true) HB.out GP.out)
        refine ((Hdo.out (w10.setCell ⟨gp, 1, none⟩ (Value.bool true)) i b _ _ _ (uU.vO (fB.VO (fB.of_below H6.out gp none) 1 (Value.bool true))) hil hib.out HRF.out.symm (fQ (cs' := #[Value.slice A7 l.length c7, Value.bool true, Value.int .i64 fu, Value.int .i64 fa]) BKP.out 1 (Value.bool true) rfl) (R1 (j := 1) HO.out BKP.out (by decide) (Value.bool true))).mono ?_)
        rintro e w12 ⟨rfl, v', hp', ho', hb', h24⟩
        obtain ⟨A8, c8, e8⟩ := Kd.dU ho'
        subst e8
        have n0_ := aA.mk (k1.trans hb'); have n1_ := aA.mk (h24 g6 _ k0); have n2_ := aA.mk hp'; have n3_ := aA.mk ho'
        clear BK3 BKP BKC BK6 HB HO H6 k0 k1 hp' ho' hb' h24; clear ca0 fa0 ca1 fa1 ca2 fa2 ca3 fa3; clear cb0 fb0 cb1 fb1 cb2 fb2 cb3 fb3; clear cp0 fp0 cp1 fp1 cp2 fp2 cp3 fp3; clear cc0 fc0 cc1 fc1 cc2 fc2
        have HB := n0_; have BK6 := n1_; have BKP := n2_; have HO := n3_; clear n0_ n1_ n2_ n3_
        have cp0 : w12.cell? ⟨gp, 0, none⟩ = some (Value.slice A8 (df (i : Int)).length c8) := (aG BKP.out 0).trans rfl
        have fp0 := aC BKP.out 0
        have cp1 : w12.cell? ⟨gp, 1, none⟩ = some (Value.bool true) := (aG BKP.out 1).trans rfl
        have fp1 := aC BKP.out 1
        have cp2 : w12.cell? ⟨gp, 2, none⟩ = some (Value.int .i64 fu) := (aG BKP.out 2).trans rfl
        have fp2 := aC BKP.out 2
        have cp3 : w12.cell? ⟨gp, 3, none⟩ = some (Value.int .i64 fa) := (aG BKP.out 3).trans rfl
        have fp3 := aC BKP.out 3
        have cb0 : w12.cell? ⟨g6, 0, none⟩ = some (Value.slice none 0 0) := (aG BK6.out 0).trans rfl
        have fb0 := aC BK6.out 0
        have cb1 : w12.cell? ⟨g6, 1, none⟩ = some (Value.bool false) := (aG BK6.out 1).trans rfl
        have fb1 := aC BK6.out 1
        have cb2 : w12.cell? ⟨g6, 2, none⟩ = some (Value.int .i64 0) := (aG BK6.out 2).trans rfl
        have fb2 := aC BK6.out 2
        have cb3 : w12.cell? ⟨g6, 3, none⟩ = some (Value.int .i64 0) := (aG BK6.out 3).trans rfl
        have fb3 := aC BK6.out 3
        go_wp2
        refine bodyPost_ret (fF rfl _ _ g6 27 #[Value.slice A8 (df (i : Int)).length c8, Value.bool true, Value.int .i64 fu, Value.int .i64 fa] (0, 0) _ rfl (uV BK6.out _ _ _ _) Tryz.underlying27 rfl (by kernel_rfl)) rfl ?_
        rw [HE.out]
        exact ⟨_, rfl, R4 HO.out BK6.out (by decide) _ _ _ _, kL HB.out G6.out _ _ _ _⟩
       | false =>
        have HE : aA (R = (l, true, fu, fa, 17)) := ⟨by rw [HRR.out, cZ, if_pos HOK.out, if_neg (by decide), ← HI.out, ← HBE.out, ← HRF.out, if_pos rfl, if_neg hf0, if_pos HU0.out, if_neg (by decide), if_neg hfp]⟩
        go_wp2
        refine bodyPost_ret (fF rfl _ _ g6 27 #[Value.slice A7 l.length c7, Value.bool true, Value.int .i64 fu, Value.int .i64 fa] (0, 0) _ rfl (uV (dB (p := ⟨gp, 1, none⟩) BK6.out N6P.out (Value.bool true)) _ _ _ _) Tryz.underlying27 rfl (by kernel_rfl)) rfl ?_
        rw [HE.out]
        exact ⟨_, rfl, R4 (R1 (j := 1) HO.out BKP.out (by decide) (Value.bool true)) (dB (p := ⟨gp, 1, none⟩) BK6.out N6P.out (Value.bool true)) (by decide) _ _ _ _, kL (bH (j := 1) (v := Value.bool true) HB.out GP.out) G6.out _ _ _ _⟩
      ·have hu1 : (fu == 0) = false := by simpa using hu0
       by_cases hup : 0 < fu
       ·have hud : decide (0 < fu) = true := by simpa using hup
        have HE : aA (R = (df (i : Int), false, wrap64 (fu - 1), fa, 0)) := ⟨by rw [HRR.out, cZ, if_pos HOK.out, if_neg (by decide), ← HI.out, ← HBE.out, ← HRF.out, if_pos rfl, if_neg hf0, if_neg hu0, if_pos hup, if_neg hfp]⟩
        have hKd := HKd.out
        go_wp2_with fail
        rw [hKd _ _, Oper.upon_enter]
        clear hKd
        have k0 := (dB (p := ⟨gp, 2, none⟩) BK6.out N6P.out (Value.int .i64 (wrap64 (fu - 1))))
        have k1 := (bH (j := 2) (v := Value.int .i64 (wrap64 (fu - 1))) HB.out GP.out)
        refine ((Hdo.out (w10.setCell ⟨gp, 2, none⟩ (Value.int .i64 (wrap64 (fu - 1)))) i b _ _ _ (uU.vO (fB.VO (fB.of_below H6.out gp none) 2 (Value.int .i64 (wrap64 (fu - 1))))) hil hib.out HRF.out.symm (fQ (cs' := #[Value.slice A7 l.length c7, Value.bool false, Value.int .i64 (wrap64 (fu - 1)), Value.int .i64 fa]) BKP.out 2 (Value.int .i64 (wrap64 (fu - 1))) rfl) (R1 (j := 2) HO.out BKP.out (by decide) (Value.int .i64 (wrap64 (fu - 1))))).mono ?_)
        rintro e w12 ⟨rfl, v', hp', ho', hb', h24⟩
        obtain ⟨A8, c8, e8⟩ := Kd.dU ho'
        subst e8
        have n0_ := aA.mk (k1.trans hb'); have n1_ := aA.mk (h24 g6 _ k0); have n2_ := aA.mk hp'; have n3_ := aA.mk ho'
        clear BK3 BKP BKC BK6 HB HO H6 k0 k1 hp' ho' hb' h24; clear ca0 fa0 ca1 fa1 ca2 fa2 ca3 fa3; clear cb0 fb0 cb1 fb1 cb2 fb2 cb3 fb3; clear cp0 fp0 cp1 fp1 cp2 fp2 cp3 fp3; clear cc0 fc0 cc1 fc1 cc2 fc2
        have HB := n0_; have BK6 := n1_; have BKP := n2_; have HO := n3_; clear n0_ n1_ n2_ n3_
        have cp0 : w12.cell? ⟨gp, 0, none⟩ = some (Value.slice A8 (df (i : Int)).length c8) := (aG BKP.out 0).trans rfl
        have fp0 := aC BKP.out 0
        have cp1 : w12.cell? ⟨gp, 1, none⟩ = some (Value.bool false) := (aG BKP.out 1).trans rfl
        have fp1 := aC BKP.out 1
        have cp2 : w12.cell? ⟨gp, 2, none⟩ = some (Value.int .i64 (wrap64 (fu - 1))) := (aG BKP.out 2).trans rfl
        have fp2 := aC BKP.out 2
        have cp3 : w12.cell? ⟨gp, 3, none⟩ = some (Value.int .i64 fa) := (aG BKP.out 3).trans rfl
        have fp3 := aC BKP.out 3
        have cb0 : w12.cell? ⟨g6, 0, none⟩ = some (Value.slice none 0 0) := (aG BK6.out 0).trans rfl
        have fb0 := aC BK6.out 0
        have cb1 : w12.cell? ⟨g6, 1, none⟩ = some (Value.bool false) := (aG BK6.out 1).trans rfl
        have fb1 := aC BK6.out 1
        have cb2 : w12.cell? ⟨g6, 2, none⟩ = some (Value.int .i64 0) := (aG BK6.out 2).trans rfl
        have fb2 := aC BK6.out 2
        have cb3 : w12.cell? ⟨g6, 3, none⟩ = some (Value.int .i64 0) := (aG BK6.out 3).trans rfl
        have fb3 := aC BK6.out 3
        go_wp2
        refine bodyPost_ret (fF rfl _ _ g6 27 #[Value.slice A8 (df (i : Int)).length c8, Value.bool false, Value.int .i64 (wrap64 (fu - 1)), Value.int .i64 fa] (0, 0) _ rfl (uV BK6.out _ _ _ _) Tryz.underlying27 rfl (by kernel_rfl)) rfl ?_
        rw [HE.out]
        exact ⟨_, rfl, R4 HO.out BK6.out (by decide) _ _ _ _, kL HB.out G6.out _ _ _ _⟩
       ·have hud : decide (0 < fu) = false := by simpa using hup
        have HE : aA (R = (df (i : Int), false, fu, fa, 0)) := ⟨by rw [HRR.out, cZ, if_pos HOK.out, if_neg (by decide), ← HI.out, ← HBE.out, ← HRF.out, if_pos rfl, if_neg hf0, if_neg hu0, if_neg hup, if_neg hfp]⟩
        have hKd := HKd.out
        go_wp2_with fail
        rw [hKd _ _, Oper.upon_enter]
        clear hKd
        have k0 := BK6.out
        have k1 := HB.out
        refine ((Hdo.out w10 i b _ _ _ (uU.vO (fB.of_below H6.out gp none)) hil hib.out HRF.out.symm (BKP.out) HO.out).mono ?_)
        rintro e w12 ⟨rfl, v', hp', ho', hb', h24⟩
        obtain ⟨A8, c8, e8⟩ := Kd.dU ho'
        subst e8
        have n0_ := aA.mk (k1.trans hb'); have n1_ := aA.mk (h24 g6 _ k0); have n2_ := aA.mk hp'; have n3_ := aA.mk ho'
        clear BK3 BKP BKC BK6 HB HO H6 k0 k1 hp' ho' hb' h24; clear ca0 fa0 ca1 fa1 ca2 fa2 ca3 fa3; clear cb0 fb0 cb1 fb1 cb2 fb2 cb3 fb3; clear cp0 fp0 cp1 fp1 cp2 fp2 cp3 fp3; clear cc0 fc0 cc1 fc1 cc2 fc2
        have HB := n0_; have BK6 := n1_; have BKP := n2_; have HO := n3_; clear n0_ n1_ n2_ n3_
        have cp0 : w12.cell? ⟨gp, 0, none⟩ = some (Value.slice A8 (df (i : Int)).length c8) := (aG BKP.out 0).trans rfl
        have fp0 := aC BKP.out 0
        have cp1 : w12.cell? ⟨gp, 1, none⟩ = some (Value.bool false) := (aG BKP.out 1).trans rfl
        have fp1 := aC BKP.out 1
        have cp2 : w12.cell? ⟨gp, 2, none⟩ = some (Value.int .i64 fu) := (aG BKP.out 2).trans rfl
        have fp2 := aC BKP.out 2
        have cp3 : w12.cell? ⟨gp, 3, none⟩ = some (Value.int .i64 fa) := (aG BKP.out 3).trans rfl
        have fp3 := aC BKP.out 3
        have cb0 : w12.cell? ⟨g6, 0, none⟩ = some (Value.slice none 0 0) := (aG BK6.out 0).trans rfl
        have fb0 := aC BK6.out 0
        have cb1 : w12.cell? ⟨g6, 1, none⟩ = some (Value.bool false) := (aG BK6.out 1).trans rfl
        have fb1 := aC BK6.out 1
        have cb2 : w12.cell? ⟨g6, 2, none⟩ = some (Value.int .i64 0) := (aG BK6.out 2).trans rfl
        have fb2 := aC BK6.out 2
        have cb3 : w12.cell? ⟨g6, 3, none⟩ = some (Value.int .i64 0) := (aG BK6.out 3).trans rfl
        have fb3 := aC BK6.out 3
        go_wp2
        refine bodyPost_ret (fF rfl _ _ g6 27 #[Value.slice A8 (df (i : Int)).length c8, Value.bool false, Value.int .i64 fu, Value.int .i64 fa] (0, 0) _ rfl (uV BK6.out _ _ _ _) Tryz.underlying27 rfl (by kernel_rfl)) rfl ?_
        rw [HE.out]
        exact ⟨_, rfl, R4 HO.out BK6.out (by decide) _ _ _ _, kL HB.out G6.out _ _ _ _⟩
   ·have HE : aA (R = (l, false, fu, fa, r)) := ⟨by
     rw [HRR.out, cZ, if_pos HOK.out, if_neg (by decide), ← HI.out, ← HBE.out, ← HRF.out, if_neg hr0]⟩
    have hr1 : (r != 0) = true := by simpa using hr0
    clear hr0
    go_wp2
    refine bodyPost_ret (fF rfl _ _ g6 27 #[Value.slice A7 l.length c7, Value.bool false, Value.int .i64 fu, Value.int .i64 fa] (0, 0) _ rfl (uV BK6.out _ _ _ _) Tryz.underlying27 rfl (by kernel_rfl)) rfl ?_
    rw [HE.out]
    exact ⟨_, rfl, R4 HO.out BK6.out (by decide) _ _ _ _, kL HB.out G6.out _ _ _ _⟩
 ·refine ((dN.calls A c l dn fu fa 6 w2 (Kd.fC HR.out HB.out) hc (by rw [dN.f, if_neg hok])).mono ?_)
  rintro e w3 ⟨rfl, hb⟩
  have n0_ := aA.mk (bC HB.out hb); have n1_ := aA.mk (bG BK3.out hb); have n2_ := aA.mk (bG BK6.out hb)
  clear HB BK3 BK6 qfr qfs qft qfu; have HB := n0_; have BK3 := n1_; have BK6 := n2_; clear n0_ n1_ n2_ hb
  have cb0 : w3.cell? ⟨g6, 0, none⟩ = some (Value.slice none 0 0) := (aG BK6.out 0).trans rfl
  have fb0 := aC BK6.out 0
  have cb1 : w3.cell? ⟨g6, 1, none⟩ = some (Value.bool false) := (aG BK6.out 1).trans rfl
  have fb1 := aC BK6.out 1
  have cb2 : w3.cell? ⟨g6, 2, none⟩ = some (Value.int .i64 0) := (aG BK6.out 2).trans rfl
  have fb2 := aC BK6.out 2
  have cb3 : w3.cell? ⟨g6, 3, none⟩ = some (Value.int .i64 0) := (aG BK6.out 3).trans rfl
  have fb3 := aC BK6.out 3
  have HE : aA (R = ([], false, 0, 0, 6)) := ⟨by rw [HRR.out, cZ, if_neg hok]⟩
  clear hok
  go_wp2_with fail
  refine bodyPost_ret (fF rfl _ _ g6 27 #[.slice none 0 0, .bool false, .int .i64 0, .int .i64 0] (0, 0) _ rfl (uV BK6.out _ _ _ _) Tryz.underlying27 rfl (by kernel_rfl)) rfl ?_
  rw [HE.out]
  exact ⟨_, rfl, Kd.zV _ _ _ _ _, kL HB.out G6.out _ _ _ _⟩
def cells3 (x : S67) : List Value := [.string x.f0, .string x.f1, .int .i64 x.f2]
def cellsOf (l : List S67) : List Value := l.flatMap cells3
theorem cO (x : S67) (l : List S67) : cellsOf (x :: l) = .string x.f0 :: .string x.f1 :: .int .i64 x.f2 :: cellsOf l := rfl
theorem pO (a b : List S67) : cellsOf (a ++ b) = cellsOf a ++ cellsOf b := by simp [cellsOf]
theorem cellsOf_length : ∀ l : List S67, (cellsOf l).length = l.length * 3
 | [] => rfl
 | x :: l => by rw [cO]; simp only [List.length_cons]; rw [cellsOf_length l]; omega
theorem jY : ∀ (l : List S67) (i : Nat), cellsOf (l.take i) = (cellsOf l).take (i * 3)
 | [], i => by simp [cellsOf]
 | x :: l, 0 => by simp [cellsOf]
 | x :: l, i + 1 => by
  rw [List.take_succ_cons, cO, cO, jY l i, show (i + 1) * 3 = i * 3 + 1 + 1 + 1 by omega]
  simp only [List.take_succ_cons]
theorem kY : ∀ (l : List S67) (i : Nat), cellsOf (l.drop i) = (cellsOf l).drop (i * 3)
 | [], i => by simp [cellsOf]
 | x :: l, 0 => by simp
 | x :: l, i + 1 => by
  rw [List.drop_succ_cons, cO, kY l i, show (i + 1) * 3 = i * 3 + 1 + 1 + 1 by omega]
  simp only [List.drop_succ_cons]
theorem jZ : ∀ (l : List S67) (i : Nat) (x : S67) (u : ByteArray), l[i]? = some x → (cellsOf l).set (i * 3 + 1) (.string u) = cellsOf (l.set i ⟨x.f0, u, x.f2⟩)
 | [], i, x, u, h => by simp at h
 | y :: l, 0, x, u, h => by
  obtain rfl : y = x := by simpa using h
  simp [cO]
 | y :: l, i + 1, x, u, h => by
  show _ = cellsOf (y :: l.set i _)
  rw [cO, cO, ← jZ l i x u (by simpa using h), show (i + 1) * 3 + 1 = i * 3 + 1 + 1 + 1 + 1 by omega]
  simp only [zS]
theorem jK : ∀ (l : List S67) (i : Nat) (x : S67) (u : Int), l[i]? = some x → (cellsOf l).set (i * 3 + 2) (.int .i64 u) = cellsOf (l.set i ⟨x.f0, x.f1, u⟩)
 | [], i, x, u, h => by simp at h
 | y :: l, 0, x, u, h => by
  obtain rfl : y = x := by simpa using h
  simp [cO]
 | y :: l, i + 1, x, u, h => by
  show _ = cellsOf (y :: l.set i _)
  rw [cO, cO, ← jK l i x u (by simpa using h), show (i + 1) * 3 + 2 = i * 3 + 2 + 1 + 1 + 1 by omega]
  simp only [zS]
theorem jB : ∀ (l : List S67) (i : Nat) (x : S67), l[i]? = some x → (cellsOf l)[i * 3]? = some (.string x.f0) ∧ (cellsOf l)[i * 3 + 1]? = some (.string x.f1) ∧ (cellsOf l)[i * 3 + 2]? = some (.int .i64 x.f2)
 | [], i, x, h => by simp at h
 | y :: l, 0, x, h => by
  obtain rfl : y = x := by simpa using h
  simp [cO]
 | y :: l, i + 1, x, h => by
  have ih := jB l i x (by simpa using h)
  rw [cO, show (i + 1) * 3 = i * 3 + 1 + 1 + 1 by omega]
  simp only [List.getElem?_cons_succ]
  exact ih
theorem qO (l : List S67) : ∀ u ∈ cellsOf l, u.oneCell' = true := by
 intro u hu
 simp only [cellsOf, List.mem_flatMap, cells3] at hu
 obtain ⟨x, _, hx⟩ := hu
 simp only [List.mem_cons, List.not_mem_nil, or_false] at hx
 rcases hx with rfl | rfl | rfl <;> rfl
theorem add_plain' (g k j : Nat) : (⟨g, k, none⟩ : Addr).add j = ⟨g, k + j, none⟩ := by unfold Addr.add; split <;> simp_all
theorem CQ (w : World) (base : Nat) (ok : Nat → Prop) : ∀ l : List S67, fH (k67.M w base ok) 3 l (cellsOf l) := by
 intro l
 refine ⟨cellsOf_length l, fun j p hj => ?_⟩
 rw [← kY, show ((3 : Nat)) = 1 * 3 from rfl, ← jY]
 have hlt : j < l.length := (List.getElem?_eq_some_iff.1 hj).1
 have e : (l.drop j).take 1 = [p] := by
  rw [List.drop_eq_getElem_cons hlt]
  have := (List.getElem?_eq_some_iff.1 hj).2
  simp [this]
 rw [e]
 exact yI w base ok p
theorem CS {w : World} {base : Nat} {ok : Nat → Prop} : ∀ {l : List S67} {cs : List Value}, fH (k67.M w base ok) 3 l cs → cs = cellsOf l := by
 intro l
 induction l with
 | nil =>
  intro cs h
  have := h.1
  simp at this
  rw [this]; rfl
 | cons x l ih =>
  intro cs h
  have h0 := Q8 (h.2 0 x rfl)
  simp only [Nat.zero_mul, List.drop_zero] at h0
  have hl := h.1
  simp only [List.length_cons] at hl
  have h1 : fH (k67.M w base ok) 3 l (cs.drop 3) := by
   refine ⟨by rw [List.length_drop]; omega, fun j p hj => ?_⟩
   have := h.2 (j + 1) p (by simpa using hj)
   rw [List.drop_drop, show 3 + j * 3 = (j + 1) * 3 by omega]
   exact this
  rw [cO, ← ih h1]
  have e : cs = cs.take 3 ++ cs.drop 3 := (List.take_append_drop 3 cs).symm
  rw [h0] at e
  exact e
theorem sJ {w : World} {base : Nat} {ok : Nat → Prop} {v : Value} {l : List S67} (h : Kd.R k67 67 w base ok v l) : w.ownsRow base 67 3 v l.length (cellsOf l) := by
 obtain ⟨_, inner, ho, hr⟩ := h
 rw [← CS hr]
 exact ho
theorem oL {w : World} {base : Nat} {v : Value} {l : List S67} (h : w.ownsRow base 67 3 v l.length (cellsOf l)) : Kd.R k67 67 w base (fun _ => True) v l :=
 ⟨fun _ _ => trivial, cellsOf l, h, CQ _ _ _ l⟩
theorem lV {w : World} {base : Nat} {ok : Nat → Prop} {A : Option Addr} {n c : Nat} {l : List S67} (h : Kd.R k67 67 w base ok (.slice A n c) l) (hne : 0 < l.length) :
  ∃ g cur, A = some ⟨g, 0, none⟩ ∧ n = l.length ∧ base ≤ g ∧ w.heap[g]? = some (.cells cur 67 (0, 0)) ∧ l.length ≤ c ∧ c ≤ maxLen ∧ cur.size = c * 3 ∧ cur.toList.take (l.length * 3) = cellsOf l := by
 obtain ⟨_, h2 | ⟨g, cap, cur, he, hb, hh, h3, h4, h5, h6⟩⟩ := sJ h
 ·omega
 ·injection he with e1 e2 e3
  subst e1 e2 e3
  exact ⟨g, cur, rfl, rfl, hb, hh, h3, h4, h5, h6⟩
theorem kE {w : World} {g : Nat} {cur : Array Value} {l : List S67} {j : Nat} {u : Value} (hh : w.heap[g]? = some (.cells cur 67 (0, 0))) (h6 : cur.toList.take (l.length * 3) = cellsOf l) (hj : (cellsOf l)[j]? = some u) :
  w.cell? ⟨g, j, none⟩ = some u := by
 have hlt : j < l.length * 3 := by
  have := (List.getElem?_eq_some_iff.1 hj).1
  rwa [cellsOf_length] at this
 rw [aG hh]
 rw [← h6, List.getElem?_take_of_lt hlt] at hj
 rw [← hj]
 simp
theorem zX {w : World} {base g c j : Nat} {l l' : List S67} {u : Value} (h : Kd.R k67 67 w base (fun _ => True) (.slice (some ⟨g, 0, none⟩) l.length c) l) (hl : l'.length = l.length) (he : (cellsOf l).set j u = cellsOf l') (hj : j < l.length * 3) :
  Kd.R k67 67 (w.setCell ⟨g, j, none⟩ u) base (fun _ => True) (.slice (some ⟨g, 0, none⟩) l'.length c) l' := by
 obtain ⟨g', cur, hg, _, hb, hh, h3, h4, h5, h6⟩ := lV h (by omega)
 injection hg with hg
 injection hg with hg
 subst hg
 refine oL ⟨by rw [cellsOf_length], .inr ⟨g, c, cur.setIfInBounds j u, rfl, hb, FZ hh j u, by omega, h4, by simpa using h5, ?_⟩⟩
 rw [← he, ← h6, hl]
 simp [List.take_set]
theorem o8 (i : Int) (b : Bool) (w : World) : Calls Tryz.prog 160 #[.int .i64 i, .bool b] w fun e w' => e = .returned (.int .i64 (if b = true then 0 else 7)) ∧ w = w' := by
 cases b
 ·go_enter Tryz.func160, Tryz.ntmps160
  go_wp2
  go_ret
  exact ⟨rfl, rfl⟩
 ·go_enter Tryz.func160, Tryz.ntmps160
  go_wp2
  go_ret
  exact ⟨rfl, rfl⟩
theorem V8 : Enters 160 := fun args w => jW Tryz.func160 (by kernel_rfl) (by kernel_rfl) args w
end Go.Proofs.YtanonhipicoigaaGreatDoor.U
