import Derived.Recover
import Derived.Defers
import Derived.Laws.Pointers
import Derived.Test.YtanonhipicoigaaGreatDoorZSal
import Derived.RangeFuncSeq
import Derived.OwnWalkIn
import Derived.RegionIn
import Derived.LoopNIn
import Derived.LoopIn
import Derived.Test.YtanonhipicoigaaGreatDoorZSag
set_option linter.unusedVariables false
set_option linter.unusedSimpArgs false
set_option maxRecDepth 100000
namespace Go.Proofs.U
open Go.RowKit Go.Proofs.YW.PrintWords Go.Proofs.YW.PrintLast Go.Proofs.YW.PrintMore Go.Proofs.Sp Go.Proofs.fG
theorem eY {b w w' : World} {rs rs' : List Res} (H : Sep b w rs) (K : Sep w w' rs') : Sep b w' (rs' ++ rs) :=
 H.news K.below (fun r hr => ⟨K.all r hr, K.base r hr⟩) K.apart
structure Lg where
 l : List S67
 dn : Bool
 fu : Int
 fa : Int
 size : Int
 fr : Int
 nx : Int
 br : Bool
def lgc (A : Option Addr) (c : Nat) (L : Lg) : List Value := [.slice A L.l.length c, .bool L.dn, .int .i64 L.fu, .int .i64 L.fa, .int .i64 L.size, .int .u64 L.fr, .int .u64 L.nx, .bool L.br]
abbrev oJ (A : Option Addr) (c : Nat) (l : List S67) : Res := row k67 67 (.slice A l.length c) l
abbrev WM := List S67 × Bool × Int × Int × Int
def chg (L : Lg) (R : WM) : Lg := ⟨R.1, R.2.1, R.2.2.1, R.2.2.2.1, L.size, L.fr, L.nx, if R.2.2.2.2 = 0 then L.br else true⟩
def Ends (n : Int) (e : Ending) : Prop := (n = 0 ∧ e = .returned (.tuple #[])) ∨ (n ≠ 0 ∧ e = .panicked [{ v := .iface 34 (.int .i64 n), recovered := false }])
set_option maxHeartbeats 4000000 in
theorem qag {b w : World} {rs : List Res} (gl : Nat) (A : Option Addr) (c : Nat) (L : Lg) (A1 : Option Addr) (c1 : Nat) (l1 : List S67) (d1 : Bool) (u1 a1 : Int) (H0 : aA (Sep b w (box gl (lgc A c L) 134 :: rs))) :
  Calls Tryz.prog 72 #[.pointer (some ⟨gl, 0, none⟩), .agg #[.slice A1 l1.length c1, .bool d1, .int .i64 u1, .int .i64 a1], .int .i64 0] w fun e w' => e = .returned (.tuple #[]) ∧ aA (Sep b w' (box gl (lgc A1 c1 (chg L (l1, d1, u1, a1, 0))) 134 :: rs)) := by
 have H : aA (Sep b w (box gl [.slice A L.l.length c, .bool L.dn, .int .i64 L.fu, .int .i64 L.fa, .int .i64 L.size, .int .u64 L.fr, .int .u64 L.nx, .bool L.br] 134 :: rs)) := H0
 clear H0
 have c_l := H.out.cell (g := gl) aJ
 have z_l := H.out.frozen (g := gl) aJ
 go_enter Tryz.func72, Tryz.ntmps72
 go_wp2_with (first
 |((with_reducible refine aP (N := 4) rfl ?_);
   refine bG rfl H (cs := [.slice A1 l1.length c1, .bool d1, .int .i64 u1, .int .i64 a1]) (t := 27) ?hr ?_;
   (case hr => first | (go_simp; done) | (go_simp; rfl));
   intro gd wd1 n_;
   simp only [Act.put, zA, zZ, zS];
   clear H c_l z_l;
   have H := n_;
   clear n_;
   have c_d := H.out.cell (g := gd) aJ;
   have z_d := H.out.frozen (g := gd) aJ;
   have c_l := H.out.cell (g := gl) mem1;
   have z_l := H.out.frozen (g := gl) mem1)
 |((with_reducible refine aN (t := 27) (p := 10) rfl ?_);
   refine aZ (rs1 := (box gd [.slice A1 l1.length c1, .bool d1, .int .i64 u1, .int .i64 a1] 27 :: box gl [.slice A1 l1.length c1, .bool d1, .int .i64 u1, .int .i64 a1, .int .i64 L.size, .int .u64 L.fr, .int .u64 L.nx, .bool L.br] 134 :: rs)) rfl (t := 27) (p := 10) rfl rfl ?hr (H1 := (Sep.set1 (Sep.set1 (Sep.set1 (Sep.set1 H.out 0 (.slice A1 l1.length c1) rfl) 1 (.bool d1) rfl) 2 (.int .i64 u1) rfl) 3 (.int .i64 a1) rfl)) ?_;
   (case hr => first | (go_simp; done) | (go_simp; rfl));
   intro wd2 n_;
   clear H c_d z_d c_l z_l;
   have H := n_;
   clear n_;
   have c_d := H.out.cell (g := gd) aJ;
   have z_d := H.out.frozen (g := gd) aJ;
   have c_l := H.out.cell (g := gl) mem1;
   have z_l := H.out.frozen (g := gl) mem1)
 |fail)
 go_end0
 exact ⟨rfl, ⟨(Sep.dV H.out)⟩⟩
set_option maxHeartbeats 4000000 in
theorem qah {b w : World} {rs : List Res} (gl : Nat) (A : Option Addr) (c : Nat) (L : Lg) (A1 : Option Addr) (c1 : Nat) (l1 : List S67) (d1 : Bool) (u1 a1 : Int) (n : Int) (hn : n ≠ 0) (H0 : aA (Sep b w (box gl (lgc A c L) 134 :: rs))) :
  Calls Tryz.prog 72 #[.pointer (some ⟨gl, 0, none⟩), .agg #[.slice A1 l1.length c1, .bool d1, .int .i64 u1, .int .i64 a1], .int .i64 n] w fun e w' => e = .panicked [{ v := .iface 34 (.int .i64 n), recovered := false }] ∧ aA (Sep b w' (box gl (lgc A1 c1 (chg L (l1, d1, u1, a1, n))) 134 :: rs)) := by
 have H : aA (Sep b w (box gl [.slice A L.l.length c, .bool L.dn, .int .i64 L.fu, .int .i64 L.fa, .int .i64 L.size, .int .u64 L.fr, .int .u64 L.nx, .bool L.br] 134 :: rs)) := H0
 clear H0
 have c_l := H.out.cell (g := gl) aJ
 have z_l := H.out.frozen (g := gl) aJ
 go_enter Tryz.func72, Tryz.ntmps72
 go_wp2_with (first
 |((with_reducible refine aP (N := 4) rfl ?_);
   refine bG rfl H (cs := [.slice A1 l1.length c1, .bool d1, .int .i64 u1, .int .i64 a1]) (t := 27) ?hr ?_;
   (case hr => first | (go_simp; done) | (go_simp; rfl));
   intro gd wd3 n_;
   simp only [Act.put, zA, zZ, zS];
   clear H c_l z_l;
   have H := n_;
   clear n_;
   have c_d := H.out.cell (g := gd) aJ;
   have z_d := H.out.frozen (g := gd) aJ;
   have c_l := H.out.cell (g := gl) mem1;
   have z_l := H.out.frozen (g := gl) mem1)
 |((with_reducible refine aN (t := 27) (p := 10) rfl ?_);
   refine aZ (rs1 := (box gd [.slice A1 l1.length c1, .bool d1, .int .i64 u1, .int .i64 a1] 27 :: box gl [.slice A1 l1.length c1, .bool d1, .int .i64 u1, .int .i64 a1, .int .i64 L.size, .int .u64 L.fr, .int .u64 L.nx, .bool L.br] 134 :: rs)) rfl (t := 27) (p := 10) rfl rfl ?hr (H1 := (Sep.set1 (Sep.set1 (Sep.set1 (Sep.set1 H.out 0 (.slice A1 l1.length c1) rfl) 1 (.bool d1) rfl) 2 (.int .i64 u1) rfl) 3 (.int .i64 a1) rfl)) ?_;
   (case hr => first | (go_simp; done) | (go_simp; rfl));
   intro wd4 n_;
   clear H c_d z_d c_l z_l;
   have H := n_;
   clear n_;
   have c_d := H.out.cell (g := gd) aJ;
   have z_d := H.out.frozen (g := gd) aJ;
   have c_l := H.out.cell (g := gl) mem1;
   have z_l := H.out.frozen (g := gl) mem1)
 |((with_reducible refine aN (t := 4) (p := 16) rfl ?_);
   refine aZ (rs1 := (box gd [.slice A1 l1.length c1, .bool d1, .int .i64 u1, .int .i64 a1] 27 :: box gl [.slice A1 l1.length c1, .bool d1, .int .i64 u1, .int .i64 a1, .int .i64 L.size, .int .u64 L.fr, .int .u64 L.nx, .bool true] 134 :: rs)) rfl (t := 4) (p := 16) rfl rfl ?hr (H1 := (Sep.set1 H.out 7 (.bool true) rfl)) ?_;
   (case hr => first | (go_simp; done) | (go_simp; rfl));
   intro wd5 n_;
   clear H c_d z_d c_l z_l;
   have H := n_;
   clear n_;
   have c_d := H.out.cell (g := gd) aJ;
   have z_d := H.out.frozen (g := gd) aJ;
   have c_l := H.out.cell (g := gl) mem1;
   have z_l := H.out.frozen (g := gl) mem1)
 |fail)
 refine ⟨rfl, rfl, ⟨?_⟩⟩
 have h := (Sep.dV H.out)
 have e : chg L (l1, d1, u1, a1, n) = ⟨l1, d1, u1, a1, L.size, L.fr, L.nx, true⟩ := by simp [chg, hn]
 rw [e]
 exact h
theorem qF {b w : World} {rs : List Res} (gl : Nat) (A : Option Addr) (c : Nat) (L : Lg) (A1 : Option Addr) (c1 : Nat) (R : WM) (H0 : aA (Sep b w (box gl (lgc A c L) 134 :: rs))) :
  Calls Tryz.prog 72 #[.pointer (some ⟨gl, 0, none⟩), .agg #[.slice A1 R.1.length c1, .bool R.2.1, .int .i64 R.2.2.1, .int .i64 R.2.2.2.1], .int .i64 R.2.2.2.2] w fun e w' => Ends R.2.2.2.2 e ∧ aA (Sep b w' (box gl (lgc A1 c1 (chg L R)) 134 :: rs)) := by
 obtain ⟨l1, d1, u1, a1, n⟩ := R
 by_cases hn : n = 0
 ·subst hn
  exact (qag gl A c L A1 c1 l1 d1 u1 a1 H0).mono fun e w' h => ⟨.inl ⟨rfl, h.1⟩, h.2⟩
 ·exact (qah gl A c L A1 c1 l1 d1 u1 a1 n hn H0).mono fun e w' h => ⟨.inr ⟨hn, h.1⟩, h.2⟩
theorem qG {P : Program} {fn : Func} {p q : Tmp} {ty u : TypeId} (h : fn.results = #[.cell p ty, .cell q u]) (tmps : Array Value) (w : World) (g : Nat) (t : TypeId) (cs : Array Value) (fr : Nat × Nat) (d : TypeDesc) (g2 : Nat) (v : Value)
  (hp : tmps.getD p undef = .pointer (some ⟨g, 0, none⟩)) (hg : w.heap[g]? = some (.cells cs t fr))
  (hu : P.underlying ty = some d) (hd : (match d with | .struct _ | .array _ _ => true | _ => false) = true) (hi : (P.info? ty).map (·.size) = some cs.size)
  (hq : tmps.getD q undef = .pointer (some ⟨g2, 0, none⟩)) (hl : (loadVar u ⟨g2, 0, none⟩).run P w = .ok v w) :
  (results fn tmps).run P w = .ok (.tuple #[.agg cs, v]) w := by
 have hp' : tmps[p]?.getD undef = .pointer (some ⟨g, 0, none⟩) := by simpa using hp
 have hq' : tmps[q]?.getD undef = .pointer (some ⟨g2, 0, none⟩) := by simpa using hq
 simp [results, h, hp', hq', asAddr, run_loadVar_row w g t ty cs fr d hg hu hd hi, hl]
theorem E8 {w : World} {g : Nat} {v : Value} (h : ∀ j, w.cell? ⟨g, j, none⟩ = [v][j]?) : (loadVar 34 ⟨g, 0, none⟩).run Tryz.prog w = .ok v w := by
 have h0 : w.cell? ⟨g, 0, none⟩ = some v := h 0
 simp [loadVar, go_sem, Tryz.underlying34, h0]
theorem info30 : (Tryz.prog.info? 30).map (fun i => i.size) = some 8 := by kernel_rfl
def MZ (b : World) (gl fdo : Nat) (lb : Array Value) (L : Lg) (rs : List Res) (R : Lg) (n : Int) : Prop :=
 ∀ (A : Option Addr) (c : Nat) (w : World) (ts : List Res), aA (Sep b w (box gl (lgc A c L) 134 :: oJ A c L.l :: (rs ++ ts))) →
  Calls Tryz.prog fdo lb w fun e w' => Ends n e ∧ ∃ A' c', aA (Sep b w' (box gl (lgc A' c' R) 134 :: oJ A' c' R.l :: (rs ++ ts)))
set_option maxHeartbeats 4000000 in
theorem catch_idle (g2 g4 g5 : Nat) (w : World) :
  CallsD Tryz.prog 116 #[.pointer (some ⟨g2, 0, none⟩), .pointer (some ⟨g4, 0, none⟩), .pointer (some ⟨g5, 0, none⟩)] .returning w fun e u' w' => e = .returned (.tuple #[]) ∧ u' = .returning ∧ w' = w := by
 refine callsD_of_wpS Tryz.func116 rfl fun c₀ cs hu => ?_
 apply wpS_seq
 apply wpS_region
 simp [wpOpsS, go_sem, recoverD, hu, Tryz.ntmps116, Exit.thenS]
 apply wpS_seq
 apply wpS_region
 simp [wpOpsS, go_sem, recoverD, hu, Tryz.ntmps116, Exit.thenS]
 refine wpS_cond (t := false) (by simp [Act.eval, Array.replicate]) ?_
 simp only [Bool.false_eq_true, if_false]
 refine wpS_of_wp (wp_skip ?_)
 cases c₀
 simp_all [bodyPostS, results, Tryz.results116]
set_option maxHeartbeats 4000000 in
theorem catch_panicking {b w : World} {rs : List Res} (g2 g4 g5 gl : Nat) (x5 : Value) (A : Option Addr) (c : Nat) (L : Lg) (n : Int) (older : List PanicEntry) (H0 : aA (Sep b w (box g5 [x5] 34 :: box g4 [.slice none 0 0, .bool false, .int .i64 0, .int .i64 0, .int .i64 0, .int .u64 0, .int .u64 0, .bool false] 30 :: box g2 [.pointer (some ⟨gl, 0, none⟩)] 131 :: box gl (lgc A c L) 134 :: rs))) :
  CallsD Tryz.prog 116 #[.pointer (some ⟨g2, 0, none⟩), .pointer (some ⟨g4, 0, none⟩), .pointer (some ⟨g5, 0, none⟩)] (.panicking ({ v := .iface 34 (.int .i64 n), recovered := false } :: older)) w fun e u' w' => e = .returned (.tuple #[]) ∧ u' = .panicking ({ v := .iface 34 (.int .i64 n), recovered := true } :: older) ∧ aA (Sep b w' (box g5 [.int .i64 n] 34 :: box g4 (lgc A c L) 30 :: box g2 [.pointer (some ⟨gl, 0, none⟩)] 131 :: box gl (lgc A c L) 134 :: rs)) := by
 have H : aA (Sep b w (box g5 [x5] 34 :: box g4 [.slice none 0 0, .bool false, .int .i64 0, .int .i64 0, .int .i64 0, .int .u64 0, .int .u64 0, .bool false] 30 :: box g2 [.pointer (some ⟨gl, 0, none⟩)] 131 :: box gl [.slice A L.l.length c, .bool L.dn, .int .i64 L.fu, .int .i64 L.fa, .int .i64 L.size, .int .u64 L.fr, .int .u64 L.nx, .bool L.br] 134 :: rs)) := H0
 clear H0
 have c_5 := H.out.cell (g := g5) aJ
 have z_5 := H.out.frozen (g := g5) aJ
 have c_4 := H.out.cell (g := g4) mem1
 have z_4 := H.out.frozen (g := g4) mem1
 have c_2 := H.out.cell (g := g2) mem2
 have z_2 := H.out.frozen (g := g2) mem2
 have c_l := H.out.cell (g := gl) mem3
 have z_l := H.out.frozen (g := gl) mem3
 have hta : ∀ w, (Instr.typeAssert (.iface 34 (.int .i64 n)) 20 34 false).run Tryz.prog w = .ok (.int .i64 n) w := fun w => by simp [Instr.typeAssert, go_sem, Tryz.underlying34]
 have hne : ¬ g5 = g4 := (List.pairwise_cons.1 H.out.apart).1 _ (List.mem_cons_self ..) g5 rfl
 have hne2 : ¬ g4 = g5 := fun e => hne e.symm
 refine callsD_of_wpS Tryz.func116 rfl fun c₀ cs hu => ?_
 simp only [List.size_toArray, List.length_cons, List.length_nil, Tryz.ntmps116, Nat.reduceAdd, Nat.reduceSub, Array.replicate_succ, Array.replicate_zero, List.push_toArray, List.append_toArray, List.nil_append, List.cons_append]
 apply wpS_seq
 apply wpS_region
 simp [wpOpsS, go_sem, recoverD, hu, Tryz.ntmps116, Exit.thenS]
 apply wpS_seq
 apply wpS_region
 simp [wpOpsS, go_sem, recoverD, hu, Tryz.ntmps116, Exit.thenS]
 refine wpS_cond (t := true) (by simp [Act.eval, Array.replicate]) ?_
 simp only [if_true]
 refine wpS_of_wp ?_
 go_region
 have h9 : Sep b _ (box g5 [.int .i64 n] 34 :: box g4 [.slice A L.l.length c, .bool L.dn, .int .i64 L.fu, .int .i64 L.fa, .int .i64 L.size, .int .u64 L.fr, .int .u64 L.nx, .bool L.br] 30 :: box g2 [.pointer (some ⟨gl, 0, none⟩)] 131 :: box gl [.slice A L.l.length c, .bool L.dn, .int .i64 L.fu, .int .i64 L.fa, .int .i64 L.size, .int .u64 L.fr, .int .u64 L.nx, .bool L.br] 134 :: rs) := (Sep.drew (Sep.set0 (Sep.set1 (Sep.set1 (Sep.set1 (Sep.set1 (Sep.set1 (Sep.set1 (Sep.set1 (Sep.set1 H.out 0 (.slice A L.l.length c) rfl) 1 (.bool L.dn) rfl) 2 (.int .i64 L.fu) rfl) 3 (.int .i64 L.fa) rfl) 4 (.int .i64 L.size) rfl) 5 (.int .u64 L.fr) rfl) 6 (.int .u64 L.nx) rfl) 7 (.bool L.br) rfl) 0 (.int .i64 n) rfl))
 cases c₀
 exact ⟨rfl, _, rfl, _, results_none rfl _ _ _, rfl, rfl, ⟨h9⟩⟩
set_option maxHeartbeats 4000000 in
theorem AV {b : World} {gl fdo : Nat} {lb : Array Value} {L : Lg} {rs : List Res} {R : Lg} {n : Int} (hdo : MZ b gl fdo lb L rs R n) (he : ∀ args w, (callFunc fdo args).run Tryz.prog w = .ok (.enter fdo args) w) (A : Option Addr) (c : Nat) (w : World) (H0 : aA (Sep b w (box gl (lgc A c L) 134 :: oJ A c L.l :: rs))) :
  Calls Tryz.prog 70 #[.pointer (some ⟨gl, 0, none⟩), .func (.func fdo) #[] lb] w fun e w' => ∃ A' c', e = .returned (.tuple #[.agg (lgc A' c' R).toArray, .int .i64 n]) ∧ aA (Sep b w' (box gl (lgc A' c' R) 134 :: oJ A' c' R.l :: rs)) := by
 have hmf : ∀ (fn : Fn) (first cap : Array Value) (w : World), (Instr.makeFunc fn first cap).run Tryz.prog w = .ok (.func fn first cap) w := fun _ _ _ _ => rfl
 have HDO := aA.mk hdo
 clear hdo
 have H : aA (Sep b w (box gl [.slice A L.l.length c, .bool L.dn, .int .i64 L.fu, .int .i64 L.fa, .int .i64 L.size, .int .u64 L.fr, .int .u64 L.nx, .bool L.br] 134 :: row k67 67 (.slice A (L.l).length c) L.l :: rs)) := H0
 clear H0
 have c_l := H.out.cell (g := gl) aJ
 have z_l := H.out.frozen (g := gl) aJ
 go_enter_defers Tryz.func70, Tryz.ntmps70
 go_wp2_with (first
 |((with_reducible refine aP (N := 2) rfl ?_);
   refine bG rfl H (cs := [.pointer (some ⟨gl, 0, none⟩)]) (t := 131) ?hr ?_;
   (case hr => first | (go_simp; done) | (go_simp; rfl));
   intro g2 wd6 n_;
   simp only [Act.put, zA, zZ, zS];
   clear H c_l z_l;
   have H := n_;
   clear n_;
   have c_2 := H.out.cell (g := g2) aJ;
   have z_2 := H.out.frozen (g := g2) aJ;
   have c_l := H.out.cell (g := gl) mem1;
   have z_l := H.out.frozen (g := gl) mem1)
 |((with_reducible refine aP (N := 4) rfl ?_);
   refine bG rfl H (cs := [.slice none 0 0, .bool false, .int .i64 0, .int .i64 0, .int .i64 0, .int .u64 0, .int .u64 0, .bool false]) (t := 30) ?hr ?_;
   (case hr => first | (go_simp; done) | (go_simp; rfl));
   intro g4 wd7 n_;
   simp only [Act.put, zA, zZ, zS];
   clear H c_2 z_2 c_l z_l;
   have H := n_;
   clear n_;
   have c_4 := H.out.cell (g := g4) aJ;
   have z_4 := H.out.frozen (g := g4) aJ;
   have c_2 := H.out.cell (g := g2) mem1;
   have z_2 := H.out.frozen (g := g2) mem1;
   have c_l := H.out.cell (g := gl) mem2;
   have z_l := H.out.frozen (g := gl) mem2)
 |((with_reducible refine aP (N := 5) rfl ?_);
   refine bG rfl H (cs := [.int .i64 0]) (t := 34) ?hr ?_;
   (case hr => first | (go_simp; done) | (go_simp; rfl));
   intro g5 wd8 n_;
   simp only [Act.put, zA, zZ, zS];
   clear H c_4 z_4 c_2 z_2 c_l z_l;
   have H := n_;
   clear n_;
   have c_5 := H.out.cell (g := g5) aJ;
   have z_5 := H.out.frozen (g := g5) aJ;
   have c_4 := H.out.cell (g := g4) mem1;
   have z_4 := H.out.frozen (g := g4) mem1;
   have c_2 := H.out.cell (g := g2) mem2;
   have z_2 := H.out.frozen (g := g2) mem2;
   have c_l := H.out.cell (g := gl) mem3;
   have z_l := H.out.frozen (g := gl) mem3)
 |fail)
 refine (HDO.out A c _ [box g5 [.int .i64 0] 34, box g4 [.slice none 0 0, .bool false, .int .i64 0, .int .i64 0, .int .i64 0, .int .u64 0, .int .u64 0, .bool false] 30, box g2 [.pointer (some ⟨gl, 0, none⟩)] 131] ⟨H.out.perm (List.perm_append_comm (l₁ := [box g5 [.int .i64 0] 34, box g4 [.slice none 0 0, .bool false, .int .i64 0, .int .i64 0, .int .i64 0, .int .u64 0, .int .u64 0, .bool false] 30, box g2 [.pointer (some ⟨gl, 0, none⟩)] 131]))⟩).mono ?_
 rintro e w2 ⟨hE, A', c', H2⟩
 clear c_5 z_5 c_4 z_4 c_2 z_2 c_l z_l H
 have H : aA (Sep b w2 (box g5 [.int .i64 0] 34 :: box g4 [.slice none 0 0, .bool false, .int .i64 0, .int .i64 0, .int .i64 0, .int .u64 0, .int .u64 0, .bool false] 30 :: box g2 [.pointer (some ⟨gl, 0, none⟩)] 131 :: box gl [.slice A' R.l.length c', .bool R.dn, .int .i64 R.fu, .int .i64 R.fa, .int .i64 R.size, .int .u64 R.fr, .int .u64 R.nx, .bool R.br] 134 :: row k67 67 (.slice A' (R.l).length c') R.l :: rs)) := ⟨H2.out.perm (List.perm_append_comm (l₁ := box gl (lgc A' c' R) 134 :: oJ A' c' R.l :: rs))⟩
 clear H2
 have c_5 := H.out.cell (g := g5) aJ
 have z_5 := H.out.frozen (g := g5) aJ
 have c_4 := H.out.cell (g := g4) mem1
 have z_4 := H.out.frozen (g := g4) mem1
 have c_2 := H.out.cell (g := g2) mem2
 have z_2 := H.out.frozen (g := g2) mem2
 have c_l := H.out.cell (g := gl) mem3
 have z_l := H.out.frozen (g := gl) mem3
 rcases hE with ⟨rfl, rfl⟩ | ⟨hn, rfl⟩
 ·
  go_wp2_with (first
 |((with_reducible refine aN (t := 30) (p := 4) rfl ?_);
   refine aZ (rs1 := (box g5 [.int .i64 0] 34 :: box g4 [.slice A' R.l.length c', .bool R.dn, .int .i64 R.fu, .int .i64 R.fa, .int .i64 R.size, .int .u64 R.fr, .int .u64 R.nx, .bool R.br] 30 :: box g2 [.pointer (some ⟨gl, 0, none⟩)] 131 :: box gl [.slice A' R.l.length c', .bool R.dn, .int .i64 R.fu, .int .i64 R.fa, .int .i64 R.size, .int .u64 R.fr, .int .u64 R.nx, .bool R.br] 134 :: row k67 67 (.slice A' (R.l).length c') R.l :: rs)) rfl (t := 30) (p := 4) rfl rfl ?hr (H1 := (Sep.set1 (Sep.set1 (Sep.set1 (Sep.set1 (Sep.set1 (Sep.set1 (Sep.set1 (Sep.set1 H.out 0 (.slice A' R.l.length c') rfl) 1 (.bool R.dn) rfl) 2 (.int .i64 R.fu) rfl) 3 (.int .i64 R.fa) rfl) 4 (.int .i64 R.size) rfl) 5 (.int .u64 R.fr) rfl) 6 (.int .u64 R.nx) rfl) 7 (.bool R.br) rfl)) ?_;
   (case hr => first | (go_simp; done) | (go_simp; rfl));
   intro wd9 n_;
   clear H c_5 z_5 c_4 z_4 c_2 z_2 c_l z_l;
   have H := n_;
   clear n_;
   have c_5 := H.out.cell (g := g5) aJ;
   have z_5 := H.out.frozen (g := g5) aJ;
   have c_4 := H.out.cell (g := g4) mem1;
   have z_4 := H.out.frozen (g := g4) mem1;
   have c_2 := H.out.cell (g := g2) mem2;
   have z_2 := H.out.frozen (g := g2) mem2;
   have c_l := H.out.cell (g := gl) mem3;
   have z_l := H.out.frozen (g := gl) mem3)
 |((with_reducible refine aN (t := 34) (p := 5) rfl ?_);
   refine aZ (rs1 := (box g5 [.int .i64 0] 34 :: box g4 [.slice A' R.l.length c', .bool R.dn, .int .i64 R.fu, .int .i64 R.fa, .int .i64 R.size, .int .u64 R.fr, .int .u64 R.nx, .bool R.br] 30 :: box g2 [.pointer (some ⟨gl, 0, none⟩)] 131 :: box gl [.slice A' R.l.length c', .bool R.dn, .int .i64 R.fu, .int .i64 R.fa, .int .i64 R.size, .int .u64 R.fr, .int .u64 R.nx, .bool R.br] 134 :: row k67 67 (.slice A' (R.l).length c') R.l :: rs)) rfl (t := 34) (p := 5) rfl rfl ?hr (H1 := (Sep.set0 H.out 0 (.int .i64 0) rfl)) ?_;
   (case hr => first | (go_simp; done) | (go_simp; rfl));
   intro FC n_;
   clear H c_5 z_5 c_4 z_4 c_2 z_2 c_l z_l;
   have H := n_;
   clear n_;
   have c_5 := H.out.cell (g := g5) aJ;
   have z_5 := H.out.frozen (g := g5) aJ;
   have c_4 := H.out.cell (g := g4) mem1;
   have z_4 := H.out.frozen (g := g4) mem1;
   have c_2 := H.out.cell (g := g2) mem2;
   have z_2 := H.out.frozen (g := g2) mem2;
   have c_l := H.out.cell (g := gl) mem3;
   have z_l := H.out.frozen (g := gl) mem3)
 |fail)
  refine leaves_cons (f := 116) (args := #[.pointer (some ⟨g2, 0, none⟩), .pointer (some ⟨g4, 0, none⟩), .pointer (some ⟨g5, 0, none⟩)]) (by simp) (by simp [go_sem]) ?_
  refine (catch_idle g2 g4 g5 _).mono ?_
  rintro e u' w'' ⟨rfl, rfl, rfl⟩
  clear c_5
  have c_5 := H.out.cell (g := g5) aJ
  simp only [Leaves, settle]
  exact ⟨_, qG (fn := Tryz.f70) rfl _ _ g4 30 _ _ _ g5 _ rfl (H.out.jK (g := g4) mem1) Tryz.underlying30 rfl info30 rfl (E8 c_5), A', c', rfl, ⟨(Sep.dV (Sep.drop1 (Sep.drop2 H.out)))⟩⟩
 ·
  go_wp2_with fail
  refine leaves_cons (f := 116) (args := #[.pointer (some ⟨g2, 0, none⟩), .pointer (some ⟨g4, 0, none⟩), .pointer (some ⟨g5, 0, none⟩)]) (by simp) (by simp [go_sem]) ?_
  refine (catch_panicking g2 g4 g5 gl _ A' c' R n _ H).mono ?_
  rintro e u' w'' ⟨rfl, rfl, H9⟩
  clear c_5 z_5 c_4 z_4 c_2 z_2 c_l z_l H
  have H := H9
  have c_5 := H.out.cell (g := g5) aJ
  simp only [Leaves, settle]
  exact ⟨_, qG (fn := Tryz.f70) rfl _ _ g4 30 _ _ _ g5 _ rfl (H.out.jK (g := g4) mem1) Tryz.underlying30 rfl info30 rfl (E8 c_5), A', c', rfl, ⟨(Sep.dV (Sep.drop1 (Sep.drop2 H.out)))⟩⟩
theorem UZ {ops : Array Oper} {rest : List Oper} {o : Oper} {a : Act} {Q : Exit → Act → World → Prop} {b W : World} {rs : List Res} (hgd : o.guard = none) (s x : Operand) (ho : o.op = .call { callee := .builtin .append, args := #[s, x], argTypes := #[25, 25] })
  (A : Option Addr) (c : Nat) (l : List S67) (hs : a.eval s = .slice none 0 0) (hx : a.eval x = .slice A l.length c) (H : aA (Sep b W rs)) (hr : Kd.C k67 W A l.length l) (hl : l.length ≤ 64)
  (h : ∀ A1 c1 W', aA (Sep b W' (oJ A1 c1 l :: rs)) → wpList Tryz.prog ops Q rest (a.put o.dst (.slice A1 l.length c1)) W') : wpList Tryz.prog ops Q (o :: rest) a W := by
 refine Kd.uM k67 (w0 := W) W.heap.size hgd s x 25 67 (.agg #[(.string ⟨#[]⟩), (.string ⟨#[]⟩), (.int .i64 0)]) 40 ho Tryz.underlying25 ER rfl (by decide) (by omega) (.slice none 0 0) [] l A l.length c (fun _ => True) (fun _ => False) hs hx
  (Kd.zF _ _ _ _ _) hr (fun x cs h => by obtain rfl := QV h; exact yP _ _ _ _) (fun _ h => h.elim) (fun _ _ => trivial) (Below.refl _ _) (Nat.le_refl _) (by simp only [List.length_nil]; omega) ?_
 intro v1 w1 ho hb hg hat
 obtain ⟨A1, c1, rfl⟩ := Kd.dQ ho
 exact h A1 c1 w1 ⟨H.out.iY hb ho lJ⟩
theorem qei : (Tryz.prog.info? 27).map (fun i => i.size) = some 4 := by kernel_rfl
set_option maxHeartbeats 4000000 in
theorem OT (A : Option Addr) (c : Nat) (l : List S67) (dn : Bool) (fu fa : Int) (w : World) (hr : Kd.C k67 w A l.length l) (hl : l.length ≤ 64) :
  Calls Tryz.prog 69 #[.agg #[.slice A l.length c, .bool dn, .int .i64 fu, .int .i64 fa]] w fun e w' => ∃ A1 c1, e = .returned (.agg #[.slice A1 l.length c1, .bool dn, .int .i64 fu, .int .i64 fa]) ∧ aA (Sep w w' [oJ A1 c1 l]) := by
 have HRp := aA.mk hr
 clear hr
 have H := aA.mk (Sep.start w)
 go_enter Tryz.func69, Tryz.ntmps69
 go_wp2_with (first
 |((with_reducible refine aP (N := 1) rfl ?_);
   refine bG rfl H (cs := [.slice A l.length c, .bool dn, .int .i64 fu, .int .i64 fa]) (t := 27) ?hr ?_;
   (case hr => first | (go_simp; done) | (go_simp; rfl));
   intro gd wd1 n_;
   simp only [Act.put, zA, zZ, zS];
   clear H;
   have H := n_;
   clear n_;
   have c_d := H.out.cell (g := gd) aJ;
   have z_d := H.out.frozen (g := gd) aJ)
 |((with_reducible refine aP (N := 2) rfl ?_);
   refine bG rfl H (cs := [.slice none 0 0, .bool false, .int .i64 0, .int .i64 0]) (t := 27) ?hr ?_;
   (case hr => first | (go_simp; done) | (go_simp; rfl));
   intro gz wd2 n_;
   simp only [Act.put, zA, zZ, zS];
   clear H c_d z_d;
   have H := n_;
   clear n_;
   have c_z := H.out.cell (g := gz) aJ;
   have z_z := H.out.frozen (g := gz) aJ;
   have c_d := H.out.cell (g := gd) mem1;
   have z_d := H.out.frozen (g := gd) mem1)
 |((with_reducible refine gY (b := .append) (xs := #[.const (.slice none 0 0), .tmp 4]) rfl ?_); at_builtin;
   refine UZ rfl _ _ rfl A c l rfl rfl H (H.out.came HRp.out) hl ?_;
   intro A1 c1 wd3 n_;
   clear H c_z z_z c_d z_d;
   have H := n_;
   clear n_;
   have c_z := H.out.cell (g := gz) mem1;
   have z_z := H.out.frozen (g := gz) mem1;
   have c_d := H.out.cell (g := gd) mem2;
   have z_d := H.out.frozen (g := gd) mem2)
 |((with_reducible refine aN (t := 25) (p := 6) rfl ?_);
   refine aZ (rs1 := [row k67 67 (.slice A1 (l).length c1) l, box gz [.slice none 0 0, .bool false, .int .i64 0, .int .i64 0] 27, box gd [.slice A1 l.length c1, .bool dn, .int .i64 fu, .int .i64 fa] 27]) rfl (t := 25) (p := 6) rfl rfl ?hr (H1 := (Sep.set2 H.out 0 (.slice A1 l.length c1) rfl)) ?_;
   (case hr => first | (go_simp; done) | (go_simp; rfl));
   intro wd4 n_;
   clear H c_z z_z c_d z_d;
   have H := n_;
   clear n_;
   have c_z := H.out.cell (g := gz) mem1;
   have z_z := H.out.frozen (g := gz) mem1;
   have c_d := H.out.cell (g := gd) mem2;
   have z_d := H.out.frozen (g := gd) mem2)
 |((with_reducible refine aN (t := 27) (p := 2) rfl ?_);
   refine aZ (rs1 := [row k67 67 (.slice A1 (l).length c1) l, box gz [.slice A1 l.length c1, .bool dn, .int .i64 fu, .int .i64 fa] 27, box gd [.slice A1 l.length c1, .bool dn, .int .i64 fu, .int .i64 fa] 27]) rfl (t := 27) (p := 2) rfl rfl ?hr (H1 := (Sep.set1 (Sep.set1 (Sep.set1 (Sep.set1 H.out 0 (.slice A1 l.length c1) rfl) 1 (.bool dn) rfl) 2 (.int .i64 fu) rfl) 3 (.int .i64 fa) rfl)) ?_;
   (case hr => first | (go_simp; done) | (go_simp; rfl));
   intro wd5 n_;
   clear H c_z z_z c_d z_d;
   have H := n_;
   clear n_;
   have c_z := H.out.cell (g := gz) mem1;
   have z_z := H.out.frozen (g := gz) mem1;
   have c_d := H.out.cell (g := gd) mem2;
   have z_d := H.out.frozen (g := gd) mem2)
 |fail)
 refine bodyPost_ret (xJ (r := .cell 2 27) rfl (.cell gz 27 _ _ _ rfl (H.out.jK (g := gz) mem1) Tryz.underlying27 rfl qei .nil)) rfl ?_
 exact ⟨A1, c1, rfl, ⟨(Sep.drop1 (Sep.drop2 H.out))⟩⟩
theorem qcI {n b : Int} (h0 : 0 ≤ n) (h1 : n < 16777216) (b0 : 0 ≤ b) (b1 : b ≤ 255) : bits .or .i64 (n * 256) b = n * 256 + b := by
 have e : (n * 256) % 2 ^ 8 = 0 := by
  rw [show (2 : Int) ^ 8 = 256 from rfl]
  omega
 refine bits_join .i64 62 (by decide) (fun m hm0 hm1 => ?_) 8 (n * 256) b (by omega) e ?_ b0 ?_ ?_
 ·have h2 : (2 : Int) ^ 62 = 4611686018427387904 := rfl
  rw [h2] at hm1
  rw [IntKind.wrap_i64]
  omega
 ·have h2 : (2 : Int) ^ 62 = 4611686018427387904 := rfl
  rw [h2]
  omega
 ·have h2 : (2 : Int) ^ 8 = 256 := rfl
  rw [h2]
  omega
 ·have h2 : (2 : Int) ^ 62 = 4611686018427387904 := rfl
  rw [h2]
  omega
def encR (x : Rc) : Array Value := #[.int .i64 (x.1 : Int), .agg #[.int .u64 (x.2.1 : Int), .string x.2.2]]
def SN (gs gq : Nat) (s : ByteArray) (q : Nat) (pre : List Rc) : List Res := [box gq [.int .u64 ((q + pre.length : Nat) : Int)] 28, box gs [.string s] 9]
set_option maxHeartbeats 4000000 in
theorem qcJ (b0 : World) (s : ByteArray) (q : Nat) (gs gq : Nat) (hs : s.size ≤ 262144) (hq : q ≤ most) : qbl Tryz.prog b0 159 #[.pointer (some ⟨gs, 0, none⟩), .pointer (some ⟨gq, 0, none⟩)] encR (oK s 0 q) (SN gs gq s q) := by
  intro l T W hY HH
  obtain ⟨ts0, hT0, H⟩ := HH
  refine callsIn_wide.2 ?_
  obtain ⟨xs, hxs⟩ : ∃ xs, xs = oK s 0 q := ⟨_, rfl⟩
  rw [← hxs] at hY ⊢
  have HY := aA.mk hY
  have HX := aA.mk hxs
  clear hY hxs
  have H1 : aA (Sep b0 W (box gq [.int .u64 (q : Int)] 28 :: box gs [.string s] 9 :: ts0)) := H
  clear H
  have c_q := H1.out.cell (g := gq) aJ
  have c_s := H1.out.cell (g := gs) mem1
  go_enter Tryz.func159, Tryz.ntmps159
  go_wp2_with fail
  go_loopw [4, 5, 6, 7] (fun v4 v5 v6 v7 wr => ∃ (pre : List Rc) (at_ m : Nat) (ts : List Res), v4 = .int .i64 (at_ : Int) ∧ at_ ≤ s.size ∧ aA (m = q + pre.length) ∧ aA (m ≤ most) ∧ aA (xs = pre ++ oK s at_ m) ∧ aA (T pre ts) ∧ aA (Sep b0 wr (box gq [.int .u64 (m : Int)] 28 :: box gs [.string s] 9 :: ts)))
    (fun v4 _ _ _ _ => s.size - (intOf v4).toNat)
  case atStart => exact ⟨[], 0, q, ts0, rfl, by omega, ⟨rfl⟩, ⟨hq⟩, HX, ⟨hT0⟩, H1⟩
  case round =>
    clear H1 c_q c_s
    obtain ⟨pre, at_, m, ts, rfl, hat, HM, HMM, HXS, HT, H0⟩ := hrel
    obtain ⟨mi, hmi⟩ : ∃ mi : Int, mi = (m : Int) := ⟨_, rfl⟩
    have H : aA (Sep b0 wr (box gq [.int .u64 mi] 28 :: box gs [.string s] 9 :: ts)) := by rw [hmi]; exact H0
    have HMI := aA.mk hmi
    have hm0 : 0 ≤ mi := by omega
    clear H0 hmi
    have c_q := H.out.cell (g := gq) aJ
    have c_s := H.out.cell (g := gs) mem1
    have fin : oK s at_ m = [] → ∃ ts, T xs ts ∧ aA (Sep b0 wr (SN gs gq s q xs ++ ts)) := by
      intro h
      have h1 := HXS.out
      rw [h, List.append_nil] at h1
      refine ⟨ts, by rw [h1]; exact HT.out, ?_⟩
      rw [h1, SN, ← HM.out, ← HMI.out]
      exact H
    have FIN := aA.mk fin
    clear fin
    by_cases hgo : at_ + 16 ≤ s.size ∧ m < most
    · obtain ⟨h16, hmo⟩ := hgo
      have HMO := aA.mk hmo
      have qi6 : mi < 4611686018427387904 := by
        have := HMI.out
        unfold most at hmo
        omega
      clear hmo
      go_wp2_with fail
      go_loop [5, 6] (fun v5 v6 => ∃ (j : Nat), v5 = .int .i64 (EX s at_ j) ∧ v6 = .int .i64 (3 - (j : Int)) ∧ j ≤ 4) (fun _ v6 => ((intOf v6) + 1).toNat)
      case atStart => exact ⟨0, rfl, rfl, by omega⟩
      case round =>
        obtain ⟨j, rfl, rfl, hj⟩ := hrel
        by_cases hlt : j < 4
        · have hb := uU s ((at_ : Int) + (3 - (j : Int)))
          have ha : (0 : Int) ≤ at_ + (3 - (j : Int)) := by omega
          have ha2 : (at_ : Int) + (3 - (j : Int)) < (s.size : Int) := by omega
          have hnv := AU s at_ j
          have hp : (256 : Int) ^ j ≤ 256 ^ 3 := by
            have hj3 : j ≤ 3 := by omega
            have := Nat.pow_le_pow_right (show 0 < 256 by decide) hj3
            exact_mod_cast this
          have HN := aA.mk (AU s at_ j)
          have qe8 : EX s at_ j < 16777216 := by
            have h2 : (256 : Int) ^ 3 = 16777216 := rfl
            omega
          have qe9 : 0 ≤ EX s at_ j := hnv.1
          have HS := aA.mk (show EX s at_ (j + 1) = EX s at_ j * 256 + bt s ((at_ : Int) + (3 - (j : Int))) from rfl)
          clear hnv hp HN
          obtain ⟨nv, hnv⟩ : ∃ nv, nv = EX s at_ j := ⟨_, rfl⟩
          rw [← hnv] at qe9 qe8 HS ⊢
          clear hnv
          go_wp2
          refine ⟨⟨j + 1, ?_, by congr 1; omega, by omega⟩, by simp [intOf]; omega⟩
          rw [HS.out]
          congr 1
          have e : ((at_ : Int) + (3 - (j : Int))).toNat = at_ + (3 - j) := by omega
          have hbt := WC s ((at_ : Int) + (3 - (j : Int))) (by omega)
          simp only [e] at hbt
          rw [hbt, show wrap64 (bt s ((at_ : Int) + (3 - (j : Int)))) = bt s ((at_ : Int) + (3 - (j : Int))) by unfold wrap64; omega]
          exact qcI qe9 qe8 hb.1 hb.2
        · obtain rfl : j = 4 := by omega
          obtain ⟨k, hk⟩ : ∃ k, k = xG (((byt s).drop at_).take 4) := ⟨_, rfl⟩
          rw [qeb h16, ← hk]
          have HK := aA.mk hk
          clear hk
          by_cases hbig : k ≤ 65536 ∧ k ≤ s.size - at_ - 16
          · obtain ⟨hb1, hb2⟩ := hbig
            have hb3 : (k : Int) ≤ (s.size : Int) - (at_ : Int) - 16 := by omega
            obtain ⟨dt, hdt⟩ : ∃ dt, dt = s.extract (at_ + 16) (at_ + 16 + k) := ⟨_, rfl⟩
            obtain ⟨fr, hfr⟩ : ∃ fr, fr = s.extract at_ (at_ + 16 + k) := ⟨_, rfl⟩
            have HDT := aA.mk hdt
            have HFR := aA.mk hfr
            have hds : dt.size = k := by rw [hdt, ByteArray.size_extract]; omega
            have HDS := aA.mk hds
            replace hdt := hdt.symm
            replace hfr := hfr.symm
            clear hds
            obtain ⟨ff, hff⟩ : ∃ ff, ff = dR mi dt := ⟨_, rfl⟩
            have HFF := aA.mk hff
            have FM := aA.mk (fun w => hff ▸ MR mi dt w (by rw [HDS.out]; exact hb1) hm0 (by omega))
            clear hff
            go_upto_region 10 with fail
            have hw1 : wrap64 ((at_ : Int) + 16) = (at_ : Int) + 16 := by unfold wrap64; omega
            have hw2 : wrap64 ((at_ : Int) + 16 + (k : Int)) = (at_ : Int) + 16 + (k : Int) := by unfold wrap64; omega
            have hw3 : (0 : Int) ≤ (at_ : Int) + 16 + (k : Int) := by omega
            have hw4 : (at_ : Int) + 16 + (k : Int) ≤ (s.size : Int) := by omega
            have hw5 : (at_ : Int) ≤ (at_ : Int) + 16 + (k : Int) := by omega
            have hw6 : ((at_ : Int) + 16 + (k : Int)).toNat = at_ + 16 + k := by omega
            refine gX (n := 11) (S := fun w' => w'.cell? ⟨gs, 0, none⟩ = some (.string s) ∧ w'.cell? ⟨gq, 0, none⟩ = some (.int .u64 mi) ∧ Sp.Sep b0 w' (box gq [.int .u64 mi] 28 :: box gs [.string s] 9 :: ts)) (ds := []) #[false, false, false, false, false, false, false, false, false, false, false] (by kernel_rfl) rfl rfl ⟨((Sep.cell (g := gs) (Sep.drew H.out) mem1 0).trans rfl), ((Sep.cell (g := gq) (Sep.drew H.out) aJ 0).trans rfl), (Sep.drew H.out)⟩ (fun hHeld => ?_)
            refine puS (i := 1) (N := some 52) (v := ?_) (a' := ?_) rfl rfl (by kernel_rfl) (fun _ _ _ h => h) (Or.inl ⟨by rfl, ?_⟩) ?_ ?_
            rotate_left
            · intro w'
              go_simp
              with_reducible rfl
            rotate_left
            · simp only [Act.put, zA, zZ, zS, aH, aI]
              rfl
            refine puS (i := 2) (N := some 53) (v := ?_) (a' := ?_) rfl rfl (by kernel_rfl) (fun _ _ _ h => h) (Or.inl ⟨by rfl, ?_⟩) ?_ ?_
            rotate_left
            · intro w'
              go_simp
              with_reducible rfl
            rotate_left
            · simp only [Act.put, zA, zZ, zS, aH, aI]
              rfl
            refine puS (i := 3) (N := some 54) (v := ?_) (a' := ?_) rfl rfl (by kernel_rfl) (fun _ _ _ h => h) (Or.inl ⟨by rfl, ?_⟩) ?_ ?_
            rotate_left
            · intro w'
              go_simp
              with_reducible rfl
            rotate_left
            · simp only [Act.put, zA, zZ, zS, aH, aI]
              rfl
            refine puS (i := 4) (N := some 55) (v := ?_) (a' := ?_) rfl rfl (by kernel_rfl) (fun _ _ _ h => h) (Or.inl ⟨by rfl, ?_⟩) ?_ ?_
            rotate_left
            · intro w'
              go_simp
              with_reducible rfl
            rotate_left
            · simp only [Act.put, zA, zZ, zS, aH, aI]
              rfl
            refine puS (i := 5) (N := some 56) (v := ?_) (a' := ?_) rfl rfl (by kernel_rfl) (fun _ _ _ h => h) (Or.inl ⟨by rfl, ?_⟩) ?_ ?_
            rotate_left
            · intro w'
              go_simp
              with_reducible rfl
            rotate_left
            · simp only [Act.put, zA, zZ, zS, aH, aI]
              rfl
            refine puS (i := 8) (N := some 59) (v := ?_) (a' := ?_) rfl rfl (by kernel_rfl) (fun _ _ _ h => h) (Or.inl ⟨by rfl, ?_⟩) ?_ ?_
            rotate_left
            · intro w'
              go_simp
              with_reducible rfl
            rotate_left
            · simp only [Act.put, zA, zZ, zS, aH, aI]
              rfl
            refine tkS (i := 0) (N := some 51) (v := ?_) (a' := ?_) rfl rfl (by kernel_rfl) (fun _ _ _ h => h) (Or.inl ⟨by rfl, ?_⟩) hHeld ?_ ?_
            rotate_left
            · rintro w' ⟨s0, s1, s2⟩
              go_simp
              with_reducible rfl
            rotate_left
            · simp only [Act.put, zA, zZ, zS, aH, aI]
              rfl
            refine puS (i := 6) (N := some 57) (v := ?_) (a' := ?_) rfl rfl (by kernel_rfl) (fun _ _ _ h => h) (Or.inl ⟨by rfl, ?_⟩) ?_ ?_
            rotate_left
            · intro w'
              go_simp
              with_reducible rfl
            rotate_left
            · simp only [Act.put, zA, zZ, zS, aH, aI]
              rfl
            refine tkS (i := 7) (N := some 58) (v := ?_) (a' := ?_) rfl rfl (by kernel_rfl) (fun _ _ _ h => h) (Or.inl ⟨by rfl, ?_⟩) hHeld ?_ ?_
            rotate_left
            · rintro w' ⟨s0, s1, s2⟩
              go_simp
              with_reducible rfl
            rotate_left
            · simp only [Act.put, zA, zZ, zS, aH, aI]
              rfl
            refine onS (i := 9) (N := some 60) rfl rfl (by kernel_rfl) (by decide) (fun K hK => ?_)
            refine qP Tryz.func78 (by kernel_rfl) rfl #[.int .u64 mi, .string dt] (by rfl) rfl rfl (by simp only [List.map_toArray, List.map_cons, List.map_nil]; rfl) ?_
            with_reducible refine (FM.out _).mono ?_
            rintro e w3 ⟨rfl, hb⟩
            refine ⟨_, rfl, ?_⟩
            refine hK.out _ _ ⟨((Sep.cell (g := gs) (Sep.step hHeld.2.2 hb) mem1 0).trans rfl), ((Sep.cell (g := gq) (Sep.step hHeld.2.2 hb) aJ 0).trans rfl), (Sep.step hHeld.2.2 hb)⟩ (fun hHeld => ?_)
            clear hK K
            refine fU (a' := ?_) ?_ ?_
            rotate_left
            · show Act.put _ (some 60) _ = _
              simp only [Act.put, zA, zZ, zS, aH, aI]
              rfl
            refine puS (i := 10) (N := some 61) (v := ?_) (a' := ?_) rfl rfl (by kernel_rfl) (fun _ _ _ h => h) (Or.inl ⟨by rfl, ?_⟩) ?_ ?_
            rotate_left
            · intro w'
              go_simp
              with_reducible rfl
            rotate_left
            · simp only [Act.put, zA, zZ, zS, aH, aI]
              rfl
            refine jM (by kernel_rfl) ?_
            clear hw1 hw2 hw3 hw4 hw5 hw6
            obtain ⟨_, _, H3⟩ := hHeld
            replace H := aA.mk H3
            clear H3 c_q c_s
            have c_q := H.out.cell (g := gq) aJ
            have c_s := H.out.cell (g := gs) mem1
            have z_q := H.out.frozen (g := gq) aJ
            rw [hdt]
            cases hq1 : (fr.toList == ff.toList)
            · have hne : fr ≠ ff := by
                intro e
                rw [e] at hq1
                simp at hq1
              have hnone := EW (SA (s := s) (a := at_) (n := m) HK.out (by rw [← HFR.out, ← HDT.out, ← HMI.out, ← HFF.out]; exact hne))
              have h1 := HXS.out
              rw [hnone, List.append_nil] at h1
              have HF := aA.mk h1
              clear hnone h1 hne
              go_wp2_with fail
              refine bodyPost_ret (results_none rfl _ _ _) rfl ?_
              refine ⟨⟨_, rfl⟩, ts, by rw [HF.out]; exact HT.out, ?_⟩
              rw [HF.out, SN, ← HM.out, ← HMI.out]
              exact H
            · have heq : fr = ff := by
                have h := beq_iff_eq.1 hq1
                rw [ByteArray.toList_eq, ByteArray.toList_eq] at h
                exact qN h
              have hsome := qaa (qbo (s := s) (a := at_) (n := m) HK.out h16 HMO.out hb1 hb2 (by rw [← HFR.out, ← HDT.out, ← HMI.out, ← HFF.out]; exact heq))
              rw [← HDT.out] at hsome
              have h1 := HXS.out
              rw [hsome] at h1
              have HXX := aA.mk h1
              clear hsome h1 heq
              go_upto_region 12 with fail
              refine wpIn_wide (n := 0).1 ?_
              have H4 : aA (Sep b0 w3 (SN gs gq s q pre ++ ts)) := by
                rw [SN, ← HM.out, ← HMI.out]
                exact H
              obtain ⟨fn, tmps, assign, body, hy, hR⟩ := HY.out pre _ _ HXX.out w3 ts HT.out H4
              have he : encR (at_ + 16 + dt.size, m, dt) = #[.int .i64 ((at_ : Int) + (16 + (k : Int))), .agg #[.int .u64 mi, .string dt]] := by
                simp only [encR, HDS.out, HMI.out]
                rw [show ((at_ + 16 + k : Nat) : Int) = (at_ : Int) + (16 + (k : Int)) by omega]
              rw [he] at hy
              clear H4 he
              gi_wp2
              refine ⟨rfl, hR.mono ?_⟩
              rintro e w4 ⟨rfl, ts2, hT2, H5⟩
              have HT2 := aA.mk hT2
              clear hT2
              have H6 : aA (Sep b0 w4 (box gq [.int .u64 mi] 28 :: box gs [.string s] 9 :: ts2)) := by
                have := H5
                rw [SN, ← HM.out, ← HMI.out] at this
                exact this
              clear H5 H hy hR c_q c_s z_q
              have c_q := H6.out.cell (g := gq) aJ
              have c_s := H6.out.cell (g := gs) mem1
              have z_q := H6.out.frozen (g := gq) aJ
              gi_wp2
              go_wp2
              refine ⟨⟨pre ++ [(at_ + 16 + dt.size, m, dt)], at_ + 16 + k, m + 1, ts2, ?_, by omega, ⟨?_⟩, ⟨?_⟩, ⟨?_⟩, HT2, ⟨?_⟩⟩, ?_⟩
              · rw [show ((at_ + 16 + k : Nat) : Int) = (at_ : Int) + (16 + (k : Int)) by omega]
              · rw [HM.out, List.length_append]
                rfl
              · have := HMO.out
                omega
              · rw [HXX.out, HDS.out]
                simp
              · have h := Sep.set0 (cs' := [.int .u64 (((m + 1 : Nat)) : Int)]) H6.out 0 (.int .u64 (mi + 1)) (by rw [HMI.out]; rfl)
                exact h
              · simp [intOf]
                omega
          · have hnone := FIN.out (EW (qab HK.out hbig))
            have HF := aA.mk hnone
            clear hnone
            have hor : ¬ k ≤ 65536 ∨ (k ≤ 65536 ∧ ¬ (k : Int) ≤ (s.size : Int) - (at_ : Int) - 16) := by omega
            clear hbig
            rcases hor with h1 | ⟨h1, h2⟩
            · go_wp2_with fail
              refine bodyPost_ret (results_none rfl _ _ _) rfl ?_
              exact ⟨⟨_, rfl⟩, HF.out⟩
            · go_wp2_with fail
              refine bodyPost_ret (results_none rfl _ _ _) rfl ?_
              exact ⟨⟨_, rfl⟩, HF.out⟩
    · have hnone := FIN.out (EW (qbn hgo))
      have hor : ¬ (at_ + 16 ≤ s.size) ∨ (at_ + 16 ≤ s.size ∧ (4611686018427387904 : Int) ≤ mi) := by
        have := HMI.out
        unfold most at hgo
        omega
      have HF := aA.mk hnone
      clear hgo hnone
      rcases hor with h16 | ⟨h16, hmo⟩
      · go_wp2_with fail
        go_end0
        exact ⟨⟨_, rfl⟩, HF.out⟩
      · go_wp2_with fail
        go_end0
        exact ⟨⟨_, rfl⟩, HF.out⟩
theorem U0 (b w : World) (rs : List Res) (s : ByteArray) (q : Int) (H : aA (Sep b w rs)) :
  Calls Tryz.prog 115 #[.string s, .int .u64 q] w fun e w' => ∃ gs gq, e = .returned (.func (.func 159) #[] #[.pointer (some ⟨gs, 0, none⟩), .pointer (some ⟨gq, 0, none⟩)]) ∧ aA (Sep b w' (box gq [.int .u64 q] 28 :: box gs [.string s] 9 :: rs)) := by
 go_enter Tryz.func115, Tryz.ntmps115
 go_wp2_with (first
 |((with_reducible refine aP (N := 2) rfl ?_);
   refine bG rfl H (cs := [.string s]) (t := 9) ?hr ?_;
   (case hr => first | (go_simp; done) | (go_simp; rfl));
   intro gs w1 n_;
   simp only [Act.put, zA, zZ, zS];
   clear H; have H := n_; clear n_)
 |((with_reducible refine aP (N := 3) rfl ?_);
   refine bG rfl H (cs := [.int .u64 q]) (t := 28) ?hr ?_;
   (case hr => first | (go_simp; done) | (go_simp; rfl));
   intro gq w2 n_;
   simp only [Act.put, zA, zZ, zS];
   clear H; have H := n_; clear n_)
 |fail)
 go_ret
 exact ⟨gs, gq, rfl, H⟩
end Go.Proofs.U
namespace Go.Proofs.fG
open Go.Proofs.U Go.RowKit Go.Proofs.YW.PrintWords
def jJ (x : Rc) : S62 := ⟨(x.2.1 : Int), x.2.2⟩
def bM : List Bytes → Nat → List S62
 | [], _ => []
 | d :: ds, n => ⟨(n : Int), ⟨d.toArray⟩⟩ :: bM ds (n + 1)
theorem pI : ∀ (ds : List Bytes) (n : Nat), (bM ds n).length = ds.length
 | [], _ => rfl
 | d :: ds, n => by rw [bM, List.length_cons, pI ds (n + 1), List.length_cons]
theorem qZ : ∀ (a b : List Bytes) (n : Nat), bM (a ++ b) n = bM a n ++ bM b (n + a.length)
 | [], b, n => by simp [bM]
 | d :: a, b, n => by
  rw [List.cons_append, bM, bM, qZ a b (n + 1), List.length_cons, show n + 1 + a.length = n + (a.length + 1) by omega]
  rfl
theorem NC : ∀ (ds : List Bytes) (a n : Nat), (xX ds a n).map jJ = bM ds n
 | [], _, _ => rfl
 | d :: ds, a, n => by
  rw [xX, List.map_cons, NC ds, bM]
  rfl
theorem wK : ∀ (ds : List Bytes) (a n : Nat), (xX ds a n).length = ds.length
 | [], _, _ => rfl
 | d :: ds, a, n => by rw [xX, List.length_cons, wK ds, List.length_cons]
def endOf (a : Nat) (l : List Rc) : Nat := l.foldl (fun _ r => r.1) a
theorem U1 (a : Nat) (l : List Rc) (x : Rc) : endOf a (l ++ [x]) = x.1 := by simp [endOf]
theorem KH : ∀ (ds : List Bytes) (a n : Nat), endOf a (xX ds a n) = a + (fO SU n ds).length
 | [], a, n => by simp [xX, endOf, fO]
 | d :: ds, a, n => by
  have h := KH ds (a + 16 + d.length) (n + 1)
  rw [xX, fO, List.length_append, gZ]
  show endOf (a + 16 + d.length) (xX ds (a + 16 + d.length) (n + 1)) = _
  rw [h]
  omega
theorem qbt (s : ByteArray) (n : Nat) : endOf 0 (oK s 0 n) = (readB SU (byt s) n).2 := by
 obtain ⟨r, h1, h2, _⟩ := l7 SU _ (byt s) n (Nat.le_refl _)
 rw [oK, List.drop_zero, KH, h2, Nat.zero_add]
def FI (F : Fd) (ps : List Pl) (i : Nat) (ds : List Bytes) (m : Nat) (t : Option (Pl × Nat)) : Prop :=
 (t = none ∧ F = ⟨ds ++ (goF SU (ps.drop i) m).recs, (goF SU (ps.drop i) m).next, (goF SU (ps.drop i) m).qY, (goF SU (ps.drop i) m).gone⟩) ∨ (∃ x, t = some x ∧ F = ⟨ds, m, some x, ps.drop i⟩)
theorem qbu (ps : List Pl) (n : Nat) : FI (goF SU ps n) ps 0 [] n none := .inl ⟨rfl, by simp⟩
theorem WO {F : Fd} {ps : List Pl} {i : Nat} {ds : List Bytes} {m : Nat} {x : Pl × Nat} (h : FI F ps i ds m (some x)) : F = ⟨ds, m, some x, ps.drop i⟩ := by
 rcases h with ⟨h, _⟩ | ⟨y, hy, h⟩
 ·cases h
 ·injection hy with hy
  rw [hy]
  exact h
theorem qbw {F : Fd} {ps : List Pl} {i : Nat} {ds : List Bytes} {m : Nat} {p : Pl} {r : List Pl} (h : FI F ps i ds m none) (hp : ps.drop i = p :: r) (hne : p.2 ≠ m) : F = ⟨ds, m, none, ps.drop i⟩ := by
 rcases h with ⟨_, h⟩ | ⟨y, hy, _⟩
 ·rw [h, hp, goF, if_neg hne]
  simp
 ·cases hy
theorem qej {F : Fd} {ps : List Pl} {i : Nat} {ds : List Bytes} {m : Nat} (h : FI F ps i ds m none) (hi : ps.length ≤ i) : F = ⟨ds, m, none, []⟩ := by
 rcases h with ⟨_, h⟩ | ⟨y, hy, _⟩
 ·rw [h, List.drop_eq_nil_of_le hi, goF]
  simp
 ·cases hy
theorem qcK {F : Fd} {ps : List Pl} {i : Nat} {ds : List Bytes} {m : Nat} {p : Pl} (h : FI F ps i ds m none) (hp : ps.drop i = p :: ps.drop (i + 1)) (he : p.2 = m) :
  FI F ps (i + 1) (ds ++ (readB SU (byt p.1.f1) m).1) (m + (readB SU (byt p.1.f1) m).1.length) (if (readB SU (byt p.1.f1) m).2 < p.1.f1.size then some (p, (readB SU (byt p.1.f1) m).2) else none) := by
 rcases h with ⟨_, h⟩ | ⟨y, hy, _⟩
 ·rw [hp, goF, if_pos he] at h
  by_cases hc : (readB SU (byt p.1.f1) m).2 < p.1.f1.size
  ·rw [if_pos hc] at h ⊢
   exact .inr ⟨_, rfl, h⟩
  ·rw [if_neg hc] at h ⊢
   refine .inl ⟨rfl, ?_⟩
   rw [h, List.append_assoc]
 ·cases hy
end Go.Proofs.fG
namespace Go.Proofs.U
open Go.RowKit Go.Proofs.YW.PrintWords Go.Proofs.YW.PrintLast Go.Proofs.YW.PrintMore Go.Proofs.Sp Go.Proofs.fG
attribute [local go_sem] Oper.semAt_some
def dL (ps : List Pl) : Nat := match ps with | [] => 1 | p :: _ => p.2
def pX (t : Option (Pl × Nat)) : ByteArray := match t with | none => ⟨#[]⟩ | some x => x.1.1.f0
def xY (t : Option (Pl × Nat)) : Int := match t with | none => 0 | some x => (x.2 : Int)
theorem qbx {T : Array Value} {n : Nat} (h : T.size = n) : T = Array.ofFn (n := n) fun i => T.getD i.1 undef := by
 apply Array.ext
 ·simp [h]
 ·intro i h1 h2
  simp [h1]
theorem pJ {l : List S67} {ps : List Pl} {p : Pl} (h : bF l = true) (hps : ps = aK l) (hp : p ∈ ps) : p.1.f1.size ≤ 262144 ∧ p.2 ≤ most ∧ p.1.f0.toList ≠ [] := by
 subst hps
 obtain ⟨f, hf, he⟩ := List.mem_filterMap.1 hp
 cases hn : numOf f.f0 with
 | none => rw [hn] at he; cases he
 | some n =>
  rw [hn] at he
  injection he with he
  subst he
  have h1 := oI.1 hn
  refine ⟨(((iH l).1 h).2.1 f hf).2.1, h1.1, fun e => ?_⟩
  have e2 : byt f.f0 = [] := by
   rw [ByteArray.toList_eq] at e
   exact e
  have h2 := congrArg List.length h1.2
  rw [e2, pF] at h2
  cases h2
theorem GZ (S : Sum) : ∀ (n : Nat) (ds : List Bytes), ds.length ≤ (fO S n ds).length
 | n, [] => Nat.le_refl _
 | n, d :: r => by
  have h := GZ S (n + 1) r
  rw [fO, List.length_append, gZ, List.length_cons]
  omega
theorem qby (s : ByteArray) (n : Nat) : (readB SU (byt s) n).1.length ≤ s.size := by
 obtain ⟨r, h1, h2, _⟩ := l7 SU _ (byt s) n (Nat.le_refl _)
 have h3 := GZ SU n (readB SU (byt s) n).1
 have h4 := congrArg List.length h1
 rw [dD, List.length_append] at h4
 omega
theorem qcL (s : ByteArray) (n : Nat) : (readB SU (byt s) n).2 ≤ s.size := by
 obtain ⟨r, h1, h2, _⟩ := l7 SU _ (byt s) n (Nat.le_refl _)
 have h4 := congrArg List.length h1
 rw [dD, List.length_append] at h4
 omega
theorem SQ (s : ByteArray) (a n : Nat) (ha : a = 0 := by rfl) : (oK s a n).length ≤ s.size := by
 subst ha
 rw [oK, wK, List.drop_zero]
 exact qby s n
theorem ND {ps : List Pl} {i : Nat} {p : Pl} (h : ps[i]? = some p) : ps.drop i = p :: ps.drop (i + 1) := by
 obtain ⟨hi, h⟩ := List.getElem?_eq_some_iff.1 h
 rw [List.drop_eq_getElem_cons hi, h]
theorem yR {w : World} {ad : Addr} {n i : Nat} {ps : List Pl} (h : Kd.C dY w (some ad) n ps) (hi : i ≤ n) : Kd.C dY w (some (ad.add (i * 4))) (n - i) (ps.drop i) := by
 obtain ⟨h1, h2, h3⟩ := h
 refine ⟨by rw [List.length_drop, h1], by omega, fun hlt => ⟨_, rfl, fun j p hj => ?_⟩⟩
 obtain ⟨ad2, e, h4⟩ := h3 (by omega)
 injection e with e
 subst e
 rw [List.getElem?_drop] at hj
 obtain ⟨c, a, b, d⟩ := h4 (i + j) p hj
 refine ⟨c, a, b, fun k u hk => ?_⟩
 have e := d k u hk
 rw [Go.Deep.add_add, ← e]
 have hs : dY.sz = 4 := rfl
 rw [hs, show i * 4 + (j * 4 + k) = (i + j) * 4 + k by omega]
theorem qcM : (Tryz.prog.info? 129).map (fun i => i.size) = some 6 := by kernel_rfl
theorem SS {S : Sum} : ∀ {ps : List Pl} {n : Nat} {x : Pl × Nat}, (goF S ps n).qY = some x → x.1 ∈ ps := by
 intro ps n x h
 obtain ⟨kept, ds, m, hc, hh⟩ := xW S ps n
 rcases hh with ⟨a1, _⟩ | ⟨p, e, dt, a1, a2, _⟩
 ·rw [h] at a1; cases a1
 ·rw [h] at a1
  injection a1 with a1
  rw [a1, a2]
  simp
theorem xZ {w wd : World} {F : fG.Fd} {n0 : Nat} {ps : List Pl} {gz : Nat} {A1 Aq A2 : Option Addr} {c1 cq c2 : Nat} {T : Array Value} {mk : List Nat} (hT : T.getD 2 undef = .pointer (some ⟨gz, 0, none⟩))
  (H : Sep w wd (box gz [.slice A1 (bM F.recs n0).length c1, .int .u64 (n0 : Int), .int .u64 (F.next : Int), .string (pX F.qY), .int .i64 (xY F.qY), .slice A2 F.gone.length c2] 129 :: row k62 62 (.slice A1 (bM F.recs n0).length c1) (bM F.recs n0) :: row dY 139 (.slice Aq ps.length cq) ps :: marks mk))
  (hC : ∀ w', Kd.C dY w' Aq ps.length ps → Kd.C dY w' A2 F.gone.length F.gone) (h2 : F.gone.length ≤ c2) : bodyPostM Fence.wide 0 Tryz.prog Tryz.f68 (fun e w' => ∃ A1 c1 A2 c2 Aq cq, e = .returned (.agg #[.slice A1 (bM F.recs n0).length c1, .int .u64 (n0 : Int), .int .u64 (F.next : Int), .string (pX F.qY), .int .i64 (xY F.qY), .slice A2 F.gone.length c2])
    ∧ aA (Sep w w' [row k62 62 (.slice A1 (bM F.recs n0).length c1) (bM F.recs n0), row dY 139 (.slice Aq ps.length cq) ps])
    ∧ (∀ W, Kd.C dY W Aq ps.length ps → Kd.C dY W A2 F.gone.length F.gone) ∧ F.gone.length ≤ c2) .ret { tmps := T, defers := mk.map UN } wd := by
 refine DR (rs := [_, _, _]) mk _ ⟨H⟩ ?_
 intro w' H
 refine ⟨_, xJ (r := .cell 2 129) rfl (.cell gz 129 _ _ _ hT (H.out.jK aJ) Tryz.underlying129 rfl qcM .nil), A1, c1, A2, c2, Aq, cq, rfl, ⟨H.out.dV⟩, hC, h2⟩
theorem OU {T : Array Value} {x2 x3 x4 x26 x27 x28 : Value} (h : T.size = 80) (h2 : T[2]? = some x2) (h3 : T[3]? = some x3) (h4 : T[4]? = some x4) (h26 : T[26]? = some x26) (h27 : T[27]? = some x27) (h28 : T[28]? = some x28) : ∃ u : Nat → Value, T = #[u 0, u 1, x2, x3, x4, u 5, u 6, u 7, u 8, u 9, u 10, u 11, u 12, u 13, u 14, u 15, u 16, u 17, u 18, u 19, u 20, u 21, u 22, u 23, u 24, u 25, x26, x27, x28, u 29, u 30, u 31, u 32, u 33, u 34, u 35, u 36, u 37, u 38, u 39, u 40, u 41, u 42, u 43, u 44, u 45, u 46, u 47, u 48, u 49, u 50, u 51, u 52, u 53, u 54, u 55, u 56, u 57, u 58, u 59, u 60, u 61, u 62, u 63, u 64, u 65, u 66, u 67, u 68, u 69, u 70, u 71, u 72, u 73, u 74, u 75, u 76, u 77, u 78, u 79] := by
 obtain rfl : x2 = T.getD 2 undef := by simp [h2]
 obtain rfl : x3 = T.getD 3 undef := by simp [h3]
 obtain rfl : x4 = T.getD 4 undef := by simp [h4]
 obtain rfl : x26 = T.getD 26 undef := by simp [h26]
 obtain rfl : x27 = T.getD 27 undef := by simp [h27]
 obtain rfl : x28 = T.getD 28 undef := by simp [h28]
 exact ⟨fun k => T.getD k undef, (qbx h).trans (by kernel_rfl)⟩
theorem MG {T : Array Value} {x3 x7 x8 x9 : Value} (h : T.size = 80) (h3 : T[3]? = some x3) (h7 : T[7]? = some x7) (h8 : T[8]? = some x8) (h9 : T[9]? = some x9) : ∃ u : Nat → Value, T = #[u 0, u 1, u 2, x3, u 4, u 5, u 6, x7, x8, x9, u 10, u 11, u 12, u 13, u 14, u 15, u 16, u 17, u 18, u 19, u 20, u 21, u 22, u 23, u 24, u 25, u 26, u 27, u 28, u 29, u 30, u 31, u 32, u 33, u 34, u 35, u 36, u 37, u 38, u 39, u 40, u 41, u 42, u 43, u 44, u 45, u 46, u 47, u 48, u 49, u 50, u 51, u 52, u 53, u 54, u 55, u 56, u 57, u 58, u 59, u 60, u 61, u 62, u 63, u 64, u 65, u 66, u 67, u 68, u 69, u 70, u 71, u 72, u 73, u 74, u 75, u 76, u 77, u 78, u 79] := by
 obtain rfl : x3 = T.getD 3 undef := by simp [h3]
 obtain rfl : x7 = T.getD 7 undef := by simp [h7]
 obtain rfl : x8 = T.getD 8 undef := by simp [h8]
 obtain rfl : x9 = T.getD 9 undef := by simp [h9]
 exact ⟨fun k => T.getD k undef, (qbx h).trans (by kernel_rfl)⟩
set_option maxHeartbeats 8000000 in
theorem qbz (A : Option Addr) (c : Nat) (l : List S67) (dn : Bool) (fu fa : Int) (w : World) (hr : Kd.C k67 w A l.length l) (hc : l.length ≤ c) (hok : bF l = true) (hG : Gl w) :
  Calls Tryz.prog 68 #[.agg #[.slice A l.length c, .bool dn, .int .i64 fu, .int .i64 fa]] w fun e w' => ∃ A1 c1 A2 c2 Aq cq, e = .returned (.agg #[.slice A1 (bM (goF SU (aK l) (dL (aK l))).recs (dL (aK l))).length c1, .int .u64 ((dL (aK l)) : Int), .int .u64 ((goF SU (aK l) (dL (aK l))).next : Int), .string (pX (goF SU (aK l) (dL (aK l))).qY), .int .i64 (xY (goF SU (aK l) (dL (aK l))).qY), .slice A2 (goF SU (aK l) (dL (aK l))).gone.length c2])
   ∧ aA (Sep w w' [row k62 62 (.slice A1 (bM (goF SU (aK l) (dL (aK l))).recs (dL (aK l))).length c1) (bM (goF SU (aK l) (dL (aK l))).recs (dL (aK l))), row dY 139 (.slice Aq (aK l).length cq) (aK l)])
   ∧ (∀ W, Kd.C dY W Aq (aK l).length (aK l) → Kd.C dY W A2 (goF SU (aK l) (dL (aK l))).gone.length (goF SU (aK l) (dL (aK l))).gone) ∧ (goF SU (aK l) (dL (aK l))).gone.length ≤ c2 := by
 have HRp := aA.mk hr
 have HCp := aA.mk hc
 have HOK := aA.mk hok
 have HG := aA.mk hG
 have hlen : l.length ≤ 64 := kK hok
 have HNM := aA.mk (fun x (hx : x ∈ l) => (show x.f0.size ≤ 65536 by have := ((iH l).1 hok).2.1 x hx; have h2 : x.f0.size ≤ 4096 := this.1; omega))
 clear hr hc hok hG
 obtain ⟨ps, hps⟩ : ∃ ps, ps = aK l := ⟨_, rfl⟩
 rw [← hps]
 have HPS := aA.mk hps
 have hpl : ps.length ≤ 64 := by rw [hps]; have := oZ l; omega
 clear hps
 obtain ⟨n0, hn0⟩ : ∃ n0, n0 = dL ps := ⟨_, rfl⟩
 rw [← hn0]
 have HN0 := aA.mk hn0
 clear hn0
 obtain ⟨F, hF⟩ : ∃ F, F = goF SU ps n0 := ⟨_, rfl⟩
 rw [← hF]
 have HF := aA.mk hF
 clear hF
 have H := aA.mk (Sep.start w)
 have PA := aA.mk (fun A c w hr hc hG => HPS.out ▸ places_any A c l dn fu fa w hr hc hlen HNM.out hG)
 refine callsIn_wide.1 (callsIn_of_wp_marks (n := 0) Tryz.func68 rfl trivial (wpIn_wide.2 ?_))
 simp only [List.size_toArray, List.length_cons, List.length_nil, Tryz.ntmps68, Nat.reduceAdd, Nat.reduceSub, Array.replicate_succ, Array.replicate_zero, List.push_toArray, List.append_toArray, List.nil_append, List.cons_append]
 go_wp2_with (first
 |((with_reducible refine aP (N := 1) rfl ?_);
   refine bG rfl H (cs := [.slice A l.length c, .bool dn, .int .i64 fu, .int .i64 fa]) (t := 27) ?hr ?_;
   (case hr => first | (go_simp; done) | (go_simp; rfl));
   intro gd wd1 n_;
   simp only [Act.put, zA, zZ, zS];
   clear H;
   have H := n_;
   clear n_;
   have c_d := H.out.cell (g := gd) aJ;
   have z_d := H.out.frozen (g := gd) aJ)
 |((with_reducible refine aP (N := 2) rfl ?_);
   refine bG rfl H (cs := [.slice none 0 0, .int .u64 0, .int .u64 0, .string ⟨#[]⟩, .int .i64 0, .slice none 0 0]) (t := 129) ?hr ?_;
   (case hr => first | (go_simp; done) | (go_simp; rfl));
   intro gz wd2 n_;
   simp only [Act.put, zA, zZ, zS];
   clear H c_d z_d;
   have H := n_;
   clear n_;
   have c_z := H.out.cell (g := gz) aJ;
   have z_z := H.out.frozen (g := gz) aJ;
   have c_d := H.out.cell (g := gd) mem1;
   have z_d := H.out.frozen (g := gd) mem1)
 |((with_reducible refine aP (N := 3) rfl ?_);
   refine bG rfl H (cs := [.slice none 0 0, .int .u64 0, .int .u64 0, .string ⟨#[]⟩, .int .i64 0, .slice none 0 0]) (t := 129) ?hr ?_;
   (case hr => first | (go_simp; done) | (go_simp; rfl));
   intro gx wd3 n_;
   simp only [Act.put, zA, zZ, zS];
   clear H c_z z_z c_d z_d;
   have H := n_;
   clear n_;
   have c_x := H.out.cell (g := gx) aJ;
   have z_x := H.out.frozen (g := gx) aJ;
   have c_z := H.out.cell (g := gz) mem1;
   have z_z := H.out.frozen (g := gz) mem1;
   have c_d := H.out.cell (g := gd) mem2;
   have z_d := H.out.frozen (g := gd) mem2)
 |((with_reducible refine aN (t := 129) (p := 3) rfl ?_);
   refine aZ (rs1 := [box gx [.slice none 0 0, .int .u64 1, .int .u64 1, .string ⟨#[]⟩, .int .i64 0, .slice none 0 0] 129, box gz [.slice none 0 0, .int .u64 0, .int .u64 0, .string ⟨#[]⟩, .int .i64 0, .slice none 0 0] 129, box gd [.slice A l.length c, .bool dn, .int .i64 fu, .int .i64 fa] 27]) rfl (t := 129) (p := 3) rfl rfl ?hr (H1 := (Sep.set0 (Sep.set0 (Sep.set0 (Sep.set0 (Sep.set0 (Sep.set0 H.out 0 (.slice none 0 0) rfl) 1 (.int .u64 1) rfl) 2 (.int .u64 1) rfl) 3 (.string ⟨#[]⟩) rfl) 4 (.int .i64 0) rfl) 5 (.slice none 0 0) rfl)) ?_;
   (case hr => first | (go_simp; done) | (go_simp; rfl));
   intro wd4 n_;
   clear H c_x z_x c_z z_z c_d z_d;
   have H := n_;
   clear n_;
   have c_x := H.out.cell (g := gx) aJ;
   have z_x := H.out.frozen (g := gx) aJ;
   have c_z := H.out.cell (g := gz) mem1;
   have z_z := H.out.frozen (g := gz) mem1;
   have c_d := H.out.cell (g := gd) mem2;
   have z_d := H.out.frozen (g := gd) mem2)
 |fail)
 refine ((PA.out A c _ (H.out.came HRp.out) HCp.out (HG.out.below H.out.below)).mono ?_)
 rintro e wd5 ⟨v_, rfl, ho_, hb_⟩
 obtain ⟨Aq, cq, eo_⟩ := Kd.dQ ho_
 subst eo_
 have n_ : aA (Sep w wd5 [row dY 139 (.slice Aq (ps).length cq) ps, box gx [.slice none 0 0, .int .u64 1, .int .u64 1, .string ⟨#[]⟩, .int .i64 0, .slice none 0 0] 129, box gz [.slice none 0 0, .int .u64 0, .int .u64 0, .string ⟨#[]⟩, .int .i64 0, .slice none 0 0] 129, box gd [.slice A l.length c, .bool dn, .int .i64 fu, .int .i64 fa] 27]) := ⟨Sep.iY H.out hb_ ho_ vI⟩
 clear H c_x z_x c_z z_z c_d z_d
 have H := n_
 clear n_
 have c_x := H.out.cell (g := gx) mem1
 have z_x := H.out.frozen (g := gx) mem1
 have c_z := H.out.cell (g := gz) mem2
 have z_z := H.out.frozen (g := gz) mem2
 have c_d := H.out.cell (g := gd) mem3
 have z_d := H.out.frozen (g := gd) mem3
 clear ho_ hb_
 by_cases hz : ps.length = 0
 ·
  have hp0 : ps = [] := List.length_eq_zero_iff.1 hz
  have hn1 : n0 = 1 := by rw [HN0.out, hp0]; rfl
  have HFE : aA (F = ⟨[], n0, none, []⟩) := ⟨by rw [HF.out, hp0]; rfl⟩
  have hz1 : ¬ (0 : Int) < (ps.length : Int) := by omega
  clear hz hp0
  rw [show (1 : Int) = (n0 : Int) by omega] at H
  clear hn1
  clear c_x z_x c_z z_z c_d z_d
  have c_x := H.out.cell (g := gx) mem1
  have c_z := H.out.cell (g := gz) mem2
  have z_z := H.out.frozen (g := gz) mem2
  have c_d := H.out.cell (g := gd) mem3
  go_wp2_with fail
  refine wp_loop (fun a' w' => a' = _ ∧ w' = _) (fun _ _ => 0) ⟨rfl, rfl⟩ ?_
  rintro a' w' ⟨rfl, rfl⟩
  go_wp2_with (first
 |((with_reducible refine aN (t := 129) (p := 2) rfl ?_);
   refine aZ (rs1 := [row dY 139 (.slice Aq (ps).length cq) ps, box gx [.slice none 0 0, .int .u64 (n0 : Int), .int .u64 (n0 : Int), .string ⟨#[]⟩, .int .i64 0, .slice none 0 0] 129, box gz [.slice none 0 0, .int .u64 (n0 : Int), .int .u64 (n0 : Int), .string ⟨#[]⟩, .int .i64 0, .slice none 0 0] 129, box gd [.slice A l.length c, .bool dn, .int .i64 fu, .int .i64 fa] 27]) rfl (t := 129) (p := 2) rfl rfl ?hr (H1 := (Sep.set2 (Sep.set2 (Sep.set2 (Sep.set2 (Sep.set2 (Sep.set2 H.out 0 (.slice none 0 0) rfl) 1 (.int .u64 (n0 : Int)) rfl) 2 (.int .u64 (n0 : Int)) rfl) 3 (.string ⟨#[]⟩) rfl) 4 (.int .i64 0) rfl) 5 (.slice none 0 0) rfl)) ?_;
   (case hr => first | (go_simp; done) | (go_simp; rfl));
   intro wd6 n_;
   clear H c_x c_z z_z c_d;
   have H := n_;
   clear n_;
   have c_x := H.out.cell (g := gx) mem1;
   have c_z := H.out.cell (g := gz) mem2;
   have z_z := H.out.frozen (g := gz) mem2;
   have c_d := H.out.cell (g := gd) mem3)
 |fail)
  obtain rfl := HFE.out
  exact xZ (mk := []) (A1 := none) (c1 := 0) (A2 := none) (c2 := 0) (ps := ps) rfl (Sep.iQ (Sep.iP (Sep.iP (Sep.drop2 (Sep.jO (Sep.eG H.out)))))) (fun w' h => Kd.C_nil _ _) (Nat.le_refl _)
 ·
  obtain ⟨p, hp⟩ : ∃ p, ps[0]? = some p := ⟨_, List.getElem?_eq_getElem (by omega)⟩
  have hn1 : n0 = p.2 := by
   rw [HN0.out]
   cases ps with
   | nil => simp at hz
   | cons p2 r =>
    simp at hp
    rw [← hp]
    rfl
  have HN1 := aA.mk hn1
  clear hn1
  obtain ⟨aq, e1⟩ := EZ (H.out.reads aJ).2.2 (by omega)
  subst e1
  obtain ⟨h0, h1, h2, h3⟩ := tZ (H.out.reads aJ).2.2 hp
  have ea : aq.add 0 = aq := by simp [Addr.add]
  simp only [Nat.zero_mul, ea] at h0 h1 h2 h3
  clear hp ea
  have hq0 : (0 : Int) < (ps.length : Int) := by omega
  go_upto_region 4 with fail
  go_region
  refine qQ (rs := [row dY 139 (.slice (some aq) (ps).length cq) ps, box gx [.slice none 0 0, .int .u64 (p.2 : Int), .int .u64 (p.2 : Int), .string ⟨#[]⟩, .int .i64 0, .slice none 0 0] 129, box gz [.slice none 0 0, .int .u64 0, .int .u64 0, .string ⟨#[]⟩, .int .i64 0, .slice none 0 0] 129, box gd [.slice A l.length c, .bool dn, .int .i64 fu, .int .i64 fa] 27]) (Sep.drew (Sep.set1 (Sep.set1 H.out 1 (.int .u64 (p.2 : Int)) rfl) 2 (.int .u64 (p.2 : Int)) rfl)) ?_
  intro wd7 n_
  have n1_ : aA (Sep w wd7 [row dY 139 (.slice (some aq) (ps).length cq) ps, box gx [.slice none 0 0, .int .u64 (n0 : Int), .int .u64 (n0 : Int), .string ⟨#[]⟩, .int .i64 0, .slice none 0 0] 129, box gz [.slice none 0 0, .int .u64 0, .int .u64 0, .string ⟨#[]⟩, .int .i64 0, .slice none 0 0] 129, box gd [.slice A l.length c, .bool dn, .int .i64 fu, .int .i64 fa] 27]) := by rw [HN1.out]; exact n_
  clear n_ h0 h1 h2 h3
  have n_ := n1_
  clear n1_
  clear H c_x z_x c_z z_z c_d z_d
  have H := n_
  clear n_
  have c_x := H.out.cell (g := gx) mem1
  have z_x := H.out.frozen (g := gx) mem1
  have c_z := H.out.cell (g := gz) mem2
  have z_z := H.out.frozen (g := gz) mem2
  have c_d := H.out.cell (g := gd) mem3
  have z_d := H.out.frozen (g := gd) mem3
  go_wp2_with fail
  refine wp_loop (fun a wr => ∃ (T : Array Value) (i : Nat) (ds : List Bytes) (m : Nat) (t : Option (Pl × Nat)) (mk : List Nat) (A1 : Option Addr) (c1 : Nat), a = { tmps := T, defers := mk.map UN } ∧ T.size = 80 ∧ T[2]? = some (.pointer (some ⟨gz, 0, none⟩)) ∧ T[3]? = some (.pointer (some ⟨gx, 0, none⟩)) ∧ T[4]? = some (.slice (some aq) ps.length cq) ∧ T[26]? = some (.slice (some aq) ps.length cq) ∧ T[27]? = some (.int .i64 (ps.length : Int)) ∧ T[28]? = some (.int .i64 (i : Int)) ∧ i ≤ ps.length ∧ ds.length ≤ i * 262144 ∧ aA (m = n0 + ds.length) ∧ aA (FI F ps i ds m t) ∧ aA (Sep w wr (box gx [.slice A1 (bM ds n0).length c1, .int .u64 (n0 : Int), .int .u64 (m : Int), .string (pX t), .int .i64 (xY t), .slice none 0 0] 129 :: row k62 62 (.slice A1 (bM ds n0).length c1) (bM ds n0) :: box gz [.slice none 0 0, .int .u64 0, .int .u64 0, .string ⟨#[]⟩, .int .i64 0, .slice none 0 0] 129 :: row dY 139 (.slice (some aq) ps.length cq) ps :: marks mk))) (fun a _ => ps.length - (intOf (a.tmps.getD 28 undef)).toNat) ?_ ?_
  ·refine ⟨_, 0, [], n0, none, [], none, 0, rfl, rfl, rfl, rfl, rfl, rfl, rfl, rfl, by omega, by simp, ⟨by simp⟩, ⟨by rw [HF.out]; exact qbu _ _⟩, ⟨?_⟩⟩
   exact (Sep.kZ (Sep.iQ (Sep.kZ (Sep.iP (Sep.jO (Sep.eG H.out))))))
  ·clear H c_x z_x c_z z_z c_d z_d
   rintro a wr ⟨T, i, ds, m, t, mk, A1, c1, rfl, hT, k2, k3, k4, k26, k27, k28, hi, hdl, HM, HFI, H⟩
   obtain ⟨u, hTu⟩ := OU hT k2 k3 k4 k26 k27 k28
   subst hTu
   clear hT k2 k3 k4 k26 k27 k28
   by_cases hil : i < ps.length
   ·
    obtain ⟨p2, hp2⟩ : ∃ p2, ps[i]? = some p2 := ⟨_, List.getElem?_eq_getElem hil⟩
    have c_x := H.out.cell (g := gx) aJ
    have z_x := H.out.frozen (g := gx) aJ
    obtain ⟨h0, h1, h2, h3⟩ := tZ (H.out.reads mem3).2.2 hp2
    have HSZ := aA.mk (pJ HOK.out HPS.out (List.mem_of_getElem? hp2)).1
    have HPM := aA.mk (pJ HOK.out HPS.out (List.mem_of_getElem? hp2)).2.1
    have hi0 : (0 : Int) ≤ (i : Int) := by omega
    have hi1 : (i : Int) < (ps.length : Int) := by omega
    clear c_x z_x
    have c_x := H.out.cell (g := gx) aJ
    have z_x := H.out.frozen (g := gx) aJ
    have c_z := H.out.cell (g := gz) mem2
    cases t with
    | none =>
     have H2 : aA (Sep w wr (box gx [.slice A1 (bM ds n0).length c1, .int .u64 (n0 : Int), .int .u64 (m : Int), .string ⟨#[]⟩, .int .i64 0, .slice none 0 0] 129 :: row k62 62 (.slice A1 (bM ds n0).length c1) (bM ds n0) :: box gz [.slice none 0 0, .int .u64 0, .int .u64 0, .string ⟨#[]⟩, .int .i64 0, .slice none 0 0] 129 :: row dY 139 (.slice (some aq) (ps).length cq) ps :: marks mk)) := H
     clear H c_x z_x c_z
     have H := H2
     clear H2
     have c_x := H.out.cell (g := gx) aJ
     have z_x := H.out.frozen (g := gx) aJ
     have c_z := H.out.cell (g := gz) mem2
     by_cases hne : p2.2 = m
     ·
      subst hne
      go_wp2_with (first
 |((with_reducible refine aP (N := 6) rfl ?_);
   refine bG rfl H (cs := [.string ⟨#[]⟩, .string ⟨#[]⟩, .int .i64 0, .int .u64 0]) (t := 139) ?hr ?_;
   (case hr => first | (go_simp; done) | (go_simp; rfl));
   intro gp wd8 n_;
   simp only [Act.put, zA, zZ, zS];
   clear H c_x z_x c_z;
   have H := n_;
   clear n_;
   have c_p := H.out.cell (g := gp) aJ;
   have z_p := H.out.frozen (g := gp) aJ;
   have c_x := H.out.cell (g := gx) mem1;
   have z_x := H.out.frozen (g := gx) mem1;
   have c_z := H.out.cell (g := gz) mem3)
 |((with_reducible refine aN (t := 139) (p := 6) rfl ?_);
   refine aZ (rs1 := (box gp [.string p2.1.f0, .string p2.1.f1, .int .i64 p2.1.f2, .int .u64 (p2.2 : Int)] 139 :: box gx [.slice A1 (bM ds n0).length c1, .int .u64 (n0 : Int), .int .u64 (p2.2 : Int), .string ⟨#[]⟩, .int .i64 0, .slice none 0 0] 129 :: row k62 62 (.slice A1 (bM ds n0).length c1) (bM ds n0) :: box gz [.slice none 0 0, .int .u64 0, .int .u64 0, .string ⟨#[]⟩, .int .i64 0, .slice none 0 0] 129 :: row dY 139 (.slice (some aq) (ps).length cq) ps :: marks mk)) rfl (t := 139) (p := 6) rfl rfl ?hr (H1 := (Sep.set0 (Sep.set0 (Sep.set0 (Sep.set0 H.out 0 (.string p2.1.f0) rfl) 1 (.string p2.1.f1) rfl) 2 (.int .i64 p2.1.f2) rfl) 3 (.int .u64 (p2.2 : Int)) rfl)) ?_;
   (case hr => first | (go_simp; done) | (go_simp; rfl));
   intro wd9 n_;
   clear H c_p z_p c_x z_x c_z;
   have H := n_;
   clear n_;
   have c_p := H.out.cell (g := gp) aJ;
   have z_p := H.out.frozen (g := gp) aJ;
   have c_x := H.out.cell (g := gx) mem1;
   have z_x := H.out.frozen (g := gx) mem1;
   have c_z := H.out.cell (g := gz) mem3;
   clear h0 h1 h2 h3)
 |((with_reducible refine aP (N := 7) rfl ?_);
   refine bG rfl H (cs := [.int .i64 0]) (t := 3) ?hr ?_;
   (case hr => first | (go_simp; done) | (go_simp; rfl));
   intro ge FC n_;
   simp only [Act.put, zA, zZ, zS];
   clear H c_p z_p c_x z_x c_z;
   have H := n_;
   clear n_;
   have c_e := H.out.cell (g := ge) aJ;
   have z_e := H.out.frozen (g := ge) aJ;
   have c_p := H.out.cell (g := gp) mem1;
   have z_p := H.out.frozen (g := gp) mem1;
   have c_x := H.out.cell (g := gx) mem2;
   have z_x := H.out.frozen (g := gx) mem2;
   have c_z := H.out.cell (g := gz) bK)
 |((with_reducible refine aN (t := 3) (p := 7) rfl ?_);
   refine aZ (rs1 := (box ge [.int .i64 0] 3 :: box gp [.string p2.1.f0, .string p2.1.f1, .int .i64 p2.1.f2, .int .u64 (p2.2 : Int)] 139 :: box gx [.slice A1 (bM ds n0).length c1, .int .u64 (n0 : Int), .int .u64 (p2.2 : Int), .string ⟨#[]⟩, .int .i64 0, .slice none 0 0] 129 :: row k62 62 (.slice A1 (bM ds n0).length c1) (bM ds n0) :: box gz [.slice none 0 0, .int .u64 0, .int .u64 0, .string ⟨#[]⟩, .int .i64 0, .slice none 0 0] 129 :: row dY 139 (.slice (some aq) (ps).length cq) ps :: marks mk)) rfl (t := 3) (p := 7) rfl rfl ?hr (H1 := (Sep.set0 H.out 0 (.int .i64 0) rfl)) ?_;
   (case hr => first | (go_simp; done) | (go_simp; rfl));
   intro MH n_;
   clear H c_e z_e c_p z_p c_x z_x c_z;
   have H := n_;
   clear n_;
   have c_e := H.out.cell (g := ge) aJ;
   have z_e := H.out.frozen (g := ge) aJ;
   have c_p := H.out.cell (g := gp) mem1;
   have z_p := H.out.frozen (g := gp) mem1;
   have c_x := H.out.cell (g := gx) mem2;
   have z_x := H.out.frozen (g := gx) mem2;
   have c_z := H.out.cell (g := gz) bK)
 |fail)
      refine ((U0 w MH _ _ _ H).mono ?_)
      rintro e_ DU ⟨gs, gq, rfl, n_⟩
      clear c_e z_e c_p z_p c_x z_x c_z H
      have H := n_
      clear n_
      go_wp2_with fail
      have HIT := aA.mk (qcJ w p2.1.f1 p2.2 gs gq HSZ.out HPM.out)
      obtain ⟨xs, hxs⟩ : ∃ xs, xs = oK p2.1.f1 0 p2.2 := ⟨_, rfl⟩
      rw [← hxs] at HIT
      have HXS := aA.mk hxs
      clear hxs
      refine Z9 (b := w) (gf := 159) (lb := #[.pointer (some ⟨gs, 0, none⟩), .pointer (some ⟨gq, 0, none⟩)]) encR xs (SN gs gq p2.1.f1 p2.2) (fun pre rs => ∃ A2 c2, rs = (box ge [.int .i64 (endOf 0 pre : Int)] 3 :: box gp [.string p2.1.f0, .string p2.1.f1, .int .i64 p2.1.f2, .int .u64 (p2.2 : Int)] 139 :: box gx [.slice A2 (bM ds n0 ++ pre.map jJ).length c2, .int .u64 (n0 : Int), .int .u64 ((p2.2 + pre.length : Nat) : Int), .string ⟨#[]⟩, .int .i64 0, .slice none 0 0] 129 :: row k62 62 (.slice A2 (bM ds n0 ++ pre.map jJ).length c2) (bM ds n0 ++ pre.map jJ) :: box gz [.slice none 0 0, .int .u64 0, .int .u64 0, .string ⟨#[]⟩, .int .i64 0, .slice none 0 0] 129 :: row dY 139 (.slice (some aq) ps.length cq) ps :: marks mk))
       (fun pre x a1 ms => ∃ (T : Array Value) (gr : Nat) (A2 : Option Addr) (c2 : Nat), a1 = { tmps := T, defers := [] } ∧ T.size = 80 ∧ T[3]? = some (.pointer (some ⟨gx, 0, none⟩)) ∧ T[7]? = some (.pointer (some ⟨ge, 0, none⟩)) ∧ T[8]? = some (.int .i64 (x.1 : Int)) ∧ T[9]? = some (.pointer (some ⟨gr, 0, none⟩)) ∧ ms = box gr [.int .u64 (x.2.1 : Int), .string x.2.2] 62 :: (box ge [.int .i64 (endOf 0 pre : Int)] 3 :: box gp [.string p2.1.f0, .string p2.1.f1, .int .i64 p2.1.f2, .int .u64 (p2.2 : Int)] 139 :: box gx [.slice A2 (bM ds n0 ++ pre.map jJ).length c2, .int .u64 (n0 : Int), .int .u64 ((p2.2 + pre.length : Nat) : Int), .string ⟨#[]⟩, .int .i64 0, .slice none 0 0] 129 :: row k62 62 (.slice A2 (bM ds n0 ++ pre.map jJ).length c2) (bM ds n0 ++ pre.map jJ) :: box gz [.slice none 0 0, .int .u64 0, .int .u64 0, .string ⟨#[]⟩, .int .i64 0, .slice none 0 0] 129 :: row dY 139 (.slice (some aq) ps.length cq) ps :: marks mk)) (box ge [.int .i64 0] 3 :: box gp [.string p2.1.f0, .string p2.1.f1, .int .i64 p2.1.f2, .int .u64 (p2.2 : Int)] 139 :: box gx [.slice A1 (bM ds n0).length c1, .int .u64 (n0 : Int), .int .u64 (p2.2 : Int), .string ⟨#[]⟩, .int .i64 0, .slice none 0 0] 129 :: row k62 62 (.slice A1 (bM ds n0).length c1) (bM ds n0) :: box gz [.slice none 0 0, .int .u64 0, .int .u64 0, .string ⟨#[]⟩, .int .i64 0, .slice none 0 0] 129 :: row dY 139 (.slice (some aq) (ps).length cq) ps :: marks mk) (by rfl) (fun args w => by simp [go_sem]) (fun x => rfl) HIT.out ⟨A1, c1, ?_⟩ H ?_ ?_ ?_
      ·simp [endOf]
      ·clear H
       intro l_ S pre x post W1 rs K_ hx hR H HK
       obtain ⟨A2, c2, rfl⟩ := hR
       have H1 : aA (Sep w W1 (box ge [.int .i64 (endOf 0 pre : Int)] 3 :: box gp [.string p2.1.f0, .string p2.1.f1, .int .i64 p2.1.f2, .int .u64 (p2.2 : Int)] 139 :: box gx [.slice A2 (bM ds n0 ++ pre.map jJ).length c2, .int .u64 (n0 : Int), .int .u64 ((p2.2 + pre.length : Nat) : Int), .string ⟨#[]⟩, .int .i64 0, .slice none 0 0] 129 :: row k62 62 (.slice A2 (bM ds n0 ++ pre.map jJ).length c2) (bM ds n0 ++ pre.map jJ) :: box gz [.slice none 0 0, .int .u64 0, .int .u64 0, .string ⟨#[]⟩, .int .i64 0, .slice none 0 0] 129 :: row dY 139 (.slice (some aq) ps.length cq) ps :: (marks mk ++ S))) := H
       clear H
       have H := H1
       clear H1
       have HX := aA.mk hx
       clear hx
       have c_e := H.out.cell (g := ge) aJ
       have c_x := H.out.cell (g := gx) mem2
       simp only [encR, List.zip_toArray, List.zip_cons_cons, List.zip_nil_right, List.foldl_toArray', List.foldl_cons, List.foldl_nil, zA, zZ, zS]
       gi_wp2_with (first
 |((with_reducible refine UW (N := 9) rfl ?_);
   refine qae rfl rfl (fun c e => by cases e) H (cs := [.int .u64 0, .string ⟨#[]⟩]) (t := 62) ?hr ?_;
   (case hr => first | (go_simp; done) | (go_simp; rfl));
   intro gr KI n_;
   simp only [Act.put, zA, zZ, zS];
   clear H c_e c_x;
   have H := n_;
   clear n_;
   have c_r := H.out.cell (g := gr) aJ;
   have z_r := H.out.frozen (g := gr) aJ;
   have c_e := H.out.cell (g := ge) mem1;
   have c_x := H.out.cell (g := gx) mem3)
 |((with_reducible refine sG (t := 62) (q := 9) rfl ?_);
   refine yQ (rs1 := (box gr [.int .u64 (x.2.1 : Int), .string x.2.2] 62 :: box ge [.int .i64 (endOf 0 pre : Int)] 3 :: box gp [.string p2.1.f0, .string p2.1.f1, .int .i64 p2.1.f2, .int .u64 (p2.2 : Int)] 139 :: box gx [.slice A2 (bM ds n0 ++ pre.map jJ).length c2, .int .u64 (n0 : Int), .int .u64 ((p2.2 + pre.length : Nat) : Int), .string ⟨#[]⟩, .int .i64 0, .slice none 0 0] 129 :: row k62 62 (.slice A2 ((bM ds n0 ++ pre.map jJ)).length c2) ((bM ds n0 ++ pre.map jJ)) :: box gz [.slice none 0 0, .int .u64 0, .int .u64 0, .string ⟨#[]⟩, .int .i64 0, .slice none 0 0] 129 :: row dY 139 (.slice (some aq) (ps).length cq) ps :: (marks mk ++ S))) rfl (t := 62) (q := 9) rfl rfl rfl ?hr (H1 := (Sep.set0 (Sep.set0 H.out 0 (.int .u64 (x.2.1 : Int)) rfl) 1 (.string x.2.2) rfl)) ?_;
   (case hr => first | (go_simp; done) | (go_simp; rfl));
   intro U2 n_;
   clear H c_r z_r c_e c_x;
   have H := n_;
   clear n_;
   have c_r := H.out.cell (g := gr) aJ;
   have z_r := H.out.frozen (g := gr) aJ;
   have c_e := H.out.cell (g := ge) mem1;
   have c_x := H.out.cell (g := gx) mem3)
 |fail)
       exact HK _ _ _ ⟨_, gr, A2, c2, rfl, rfl, rfl, rfl, rfl, rfl, rfl⟩ H
      ·clear H
       intro l_ S pre x post a1 W2 ms hx hM H
       obtain ⟨T, gr, A2, c2, rfl, hT, k3, k7, k8, k9, rfl⟩ := hM
       have H1 : aA (Sep w W2 (box gr [.int .u64 (x.2.1 : Int), .string x.2.2] 62 :: (box ge [.int .i64 (endOf 0 pre : Int)] 3 :: box gp [.string p2.1.f0, .string p2.1.f1, .int .i64 p2.1.f2, .int .u64 (p2.2 : Int)] 139 :: box gx [.slice A2 (bM ds n0 ++ pre.map jJ).length c2, .int .u64 (n0 : Int), .int .u64 ((p2.2 + pre.length : Nat) : Int), .string ⟨#[]⟩, .int .i64 0, .slice none 0 0] 129 :: row k62 62 (.slice A2 (bM ds n0 ++ pre.map jJ).length c2) (bM ds n0 ++ pre.map jJ) :: box gz [.slice none 0 0, .int .u64 0, .int .u64 0, .string ⟨#[]⟩, .int .i64 0, .slice none 0 0] 129 :: row dY 139 (.slice (some aq) ps.length cq) ps :: (marks mk ++ S)))) := H
       clear H
       have H := H1
       clear H1
       have HX := aA.mk hx
       clear hx
       obtain ⟨u2, hTu⟩ := MG hT k3 k7 k8 k9
       subst hTu
       clear hT k3 k7 k8 k9
       obtain ⟨rl, hrl⟩ : ∃ rl, rl = (bM ds n0 ++ pre.map jJ) := ⟨_, rfl⟩
       rw [← hrl] at H
       obtain ⟨mm, hmm⟩ : ∃ mm, mm = p2.2 + pre.length := ⟨_, rfl⟩
       rw [← hmm] at H
       have HRL := aA.mk hrl
       have HMM := aA.mk hmm
       clear hrl hmm
       have hpx : pre.length + 1 ≤ 262144 := by
        have h1 := SQ p2.1.f1 0 p2.2
        rw [← HXS.out, HX.out, List.length_append, List.length_cons] at h1
        have := HSZ.out
        omega
       have HOL : aA (rl.length ≤ 16777216 + 262144) := ⟨by rw [HRL.out, List.length_append, pI, List.length_map]; omega⟩
       have hm3 : mm < 9223372036854775807 := by
        have := HPM.out
        unfold most at this
        rw [HMM.out]
        omega
       clear hpx
       have c_r := H.out.cell (g := gr) aJ
       have c_e := H.out.cell (g := ge) mem1
       have z_e := H.out.frozen (g := ge) mem1
       have c_x := H.out.cell (g := gx) mem3
       have z_x := H.out.frozen (g := gx) mem3
       gi_wp2_with (first
 |((with_reducible refine KG (bf := .append) (xs := #[.tmp 56, .tmp 58]) rfl ?_); gi_at_builtin;
   refine UY k62 qbs rfl (.tmp 56) (.tmp 58) 54 62 (.agg #[.int .u64 0, .string ⟨#[]⟩]) 24 rfl Tryz.underlying54 qdZ rfl (by decide) (by omega) (.slice A2 (rl).length c2) _ ((jJ x)) [.int .u64 (x.2.1 : Int), .string x.2.2] ?hs ?hx ?hp rfl H ?hl ?_;
   (case hs => first | rfl | (go_simp; done) | (simp; rfl));
   (case hx => first | (go_simp; done) | (go_simp; rfl));
   (case hp => exact WG _ _ _ _);
   (case hl => (have := HOL.out; omega));
   intro Ao2 co2 OV n_;
   clear H c_r c_e z_e c_x z_x;
   have H := n_;
   clear n_;
   have c_r := H.out.cell (g := gr) aJ;
   have c_e := H.out.cell (g := ge) mem1;
   have z_e := H.out.frozen (g := ge) mem1;
   have c_x := H.out.cell (g := gx) mem3;
   have z_x := H.out.frozen (g := gx) mem3)
 |((with_reducible refine sG (t := 54) (q := 60) rfl ?_);
   refine yQ (rs1 := (box gr [.int .u64 (x.2.1 : Int), .string x.2.2] 62 :: box ge [.int .i64 (endOf 0 pre : Int)] 3 :: box gp [.string p2.1.f0, .string p2.1.f1, .int .i64 p2.1.f2, .int .u64 (p2.2 : Int)] 139 :: box gx [.slice Ao2 ((rl ++ [(jJ x)])).length co2, .int .u64 (n0 : Int), .int .u64 (mm : Int), .string ⟨#[]⟩, .int .i64 0, .slice none 0 0] 129 :: row k62 62 (.slice Ao2 ((rl ++ [(jJ x)])).length co2) ((rl ++ [(jJ x)])) :: box gz [.slice none 0 0, .int .u64 0, .int .u64 0, .string ⟨#[]⟩, .int .i64 0, .slice none 0 0] 129 :: row dY 139 (.slice (some aq) (ps).length cq) ps :: (marks mk ++ S))) rfl (t := 54) (q := 60) rfl rfl rfl ?hr (H1 := (Sep.dZ H.out 0 (.slice Ao2 ((rl ++ [(jJ x)])).length co2) rfl)) ?_;
   (case hr => first | (go_simp; done) | (go_simp; rfl));
   intro qbA n_;
   clear H c_r c_e z_e c_x z_x;
   have H := n_;
   clear n_;
   have c_r := H.out.cell (g := gr) aJ;
   have c_e := H.out.cell (g := ge) mem1;
   have z_e := H.out.frozen (g := ge) mem1;
   have c_x := H.out.cell (g := gx) mem3;
   have z_x := H.out.frozen (g := gx) mem3)
 |((with_reducible refine sG (t := 3) (q := 7) rfl ?_);
   refine yQ (rs1 := (box gr [.int .u64 (x.2.1 : Int), .string x.2.2] 62 :: box ge [.int .i64 (x.1 : Int)] 3 :: box gp [.string p2.1.f0, .string p2.1.f1, .int .i64 p2.1.f2, .int .u64 (p2.2 : Int)] 139 :: box gx [.slice Ao2 ((rl ++ [(jJ x)])).length co2, .int .u64 (n0 : Int), .int .u64 (mm : Int), .string ⟨#[]⟩, .int .i64 0, .slice none 0 0] 129 :: row k62 62 (.slice Ao2 ((rl ++ [(jJ x)])).length co2) ((rl ++ [(jJ x)])) :: box gz [.slice none 0 0, .int .u64 0, .int .u64 0, .string ⟨#[]⟩, .int .i64 0, .slice none 0 0] 129 :: row dY 139 (.slice (some aq) (ps).length cq) ps :: (marks mk ++ S))) rfl (t := 3) (q := 7) rfl rfl rfl ?hr (H1 := (Sep.set1 H.out 0 (.int .i64 (x.1 : Int)) rfl)) ?_;
   (case hr => first | (go_simp; done) | (go_simp; rfl));
   intro qbB n_;
   clear H c_r c_e z_e c_x z_x;
   have H := n_;
   clear n_;
   have c_r := H.out.cell (g := gr) aJ;
   have c_e := H.out.cell (g := ge) mem1;
   have z_e := H.out.frozen (g := ge) mem1;
   have c_x := H.out.cell (g := gx) mem3;
   have z_x := H.out.frozen (g := gx) mem3)
 |((with_reducible refine sG (t := 28) (q := 65) rfl ?_);
   refine yQ (rs1 := (box gr [.int .u64 (x.2.1 : Int), .string x.2.2] 62 :: box ge [.int .i64 (x.1 : Int)] 3 :: box gp [.string p2.1.f0, .string p2.1.f1, .int .i64 p2.1.f2, .int .u64 (p2.2 : Int)] 139 :: box gx [.slice Ao2 ((rl ++ [(jJ x)])).length co2, .int .u64 (n0 : Int), .int .u64 ((mm : Int) + 1), .string ⟨#[]⟩, .int .i64 0, .slice none 0 0] 129 :: row k62 62 (.slice Ao2 ((rl ++ [(jJ x)])).length co2) ((rl ++ [(jJ x)])) :: box gz [.slice none 0 0, .int .u64 0, .int .u64 0, .string ⟨#[]⟩, .int .i64 0, .slice none 0 0] 129 :: row dY 139 (.slice (some aq) (ps).length cq) ps :: (marks mk ++ S))) rfl (t := 28) (q := 65) rfl rfl rfl ?hr (H1 := (Sep.dZ H.out 2 (.int .u64 ((mm : Int) + 1)) rfl)) ?_;
   (case hr => first | (go_simp; done) | (go_simp; rfl));
   intro qai n_;
   clear H c_r c_e z_e c_x z_x;
   have H := n_;
   clear n_;
   have c_r := H.out.cell (g := gr) aJ;
   have c_e := H.out.cell (g := ge) mem1;
   have z_e := H.out.frozen (g := ge) mem1;
   have c_x := H.out.cell (g := gx) mem3;
   have z_x := H.out.frozen (g := gx) mem3)
 |fail)
       have e1 : bM ds n0 ++ (pre ++ [x]).map jJ = rl ++ [jJ x] := by
        rw [HRL.out, List.map_append, ← List.append_assoc]
        rfl
       have e2 : ((p2.2 + (pre ++ [x]).length : Nat) : Int) = (mm : Int) + 1 := by
        rw [HMM.out, List.length_append, List.length_singleton]
        omega
       refine ⟨_, ⟨Ao2, co2, rfl⟩, ⟨?_⟩⟩
       rw [e1, e2, U1]
       exact Sep.dV H.out
      ·clear H
       intro D W2 rs hR H
       obtain ⟨A2, c2, rfl⟩ := hR
       have e1 := congrArg (·.map jJ) HXS.out
       have e2 : endOf 0 xs = (readB SU (byt p2.1.f1) p2.2).2 := by rw [HXS.out]; exact qbt _ _
       have e3 := congrArg List.length HXS.out
       rw [oK, List.drop_zero] at e1 e3
       simp only [NC] at e1
       rw [wK] at e3
       obtain ⟨d1, hd1⟩ : ∃ d1, d1 = (readB SU (byt p2.1.f1) p2.2).1 := ⟨_, rfl⟩
       obtain ⟨en, hen⟩ : ∃ en, en = (readB SU (byt p2.1.f1) p2.2).2 := ⟨_, rfl⟩
       rw [← hd1] at e1 e3
       rw [← hen] at e2
       have e4 : bM ds n0 ++ xs.map jJ = bM (ds ++ d1) n0 := by rw [qZ, e1, ← HM.out]
       have HFN := aA.mk (qcK HFI.out (ND hp2) rfl)
       rw [← hd1, ← hen] at HFN
       have qi7 : d1.length ≤ 262144 := by
        have h1 := SQ p2.1.f1 0 p2.2
        rw [← HXS.out, e3] at h1
        have := HSZ.out
        omega
       have qi8 : en ≤ 262144 := by
        have h1 := qcL p2.1.f1 p2.2
        rw [← hen] at h1
        have := HSZ.out
        omega
       clear hd1 hen
       have H0 := H.out.perm List.perm_append_comm
       rw [e4, e2, e3] at H0
       have H1 : aA (Sep w W2 (box gq [.int .u64 ((p2.2 + xs.length : Nat) : Int)] 28 :: box gs [.string p2.1.f1] 9 :: thing D (.deferred (some [])) :: box ge [.int .i64 (en : Int)] 3 :: box gp [.string p2.1.f0, .string p2.1.f1, .int .i64 p2.1.f2, .int .u64 (p2.2 : Int)] 139 :: box gx [.slice A2 (bM (ds ++ d1) n0).length c2, .int .u64 (n0 : Int), .int .u64 ((p2.2 + d1.length : Nat) : Int), .string ⟨#[]⟩, .int .i64 0, .slice none 0 0] 129 :: row k62 62 (.slice A2 (bM (ds ++ d1) n0).length c2) (bM (ds ++ d1) n0) :: box gz [.slice none 0 0, .int .u64 0, .int .u64 0, .string ⟨#[]⟩, .int .i64 0, .slice none 0 0] 129 :: row dY 139 (.slice (some aq) (ps).length cq) ps :: marks mk)) := ⟨H0⟩
       clear H H0 e1 e2 e3 e4
       have H := H1
       clear H1
       have c_e := H.out.cell (g := ge) mem3
       have c_p := H.out.cell (g := gp) bK
       have c_x := H.out.cell (g := gx) dJ
       have z_x := H.out.frozen (g := gx) dJ
       have hsz : p2.1.f1.size ≤ 262144 := HSZ.out
       by_cases hto : en < p2.1.f1.size
       ·
        rw [if_pos hto] at HFN
        go_upto_region 18 with fail
        go_region
        refine qQ (rs := (box gq [.int .u64 ((p2.2 + xs.length : Nat) : Int)] 28 :: box gs [.string p2.1.f1] 9 :: thing D (.deferred (some [])) :: box ge [.int .i64 (en : Int)] 3 :: box gp [.string p2.1.f0, .string p2.1.f1, .int .i64 p2.1.f2, .int .u64 (p2.2 : Int)] 139 :: box gx [.slice A2 (bM (ds ++ d1) n0).length c2, .int .u64 (n0 : Int), .int .u64 ((p2.2 + d1.length : Nat) : Int), .string p2.1.f0, .int .i64 (en : Int), .slice none 0 0] 129 :: row k62 62 (.slice A2 (bM (ds ++ d1) n0).length c2) (bM (ds ++ d1) n0) :: box gz [.slice none 0 0, .int .u64 0, .int .u64 0, .string ⟨#[]⟩, .int .i64 0, .slice none 0 0] 129 :: row dY 139 (.slice (some aq) (ps).length cq) ps :: marks mk)) (Sep.drew (Sep.fZ (Sep.fZ H.out 3 (.string p2.1.f0) rfl) 4 (.int .i64 (en : Int)) rfl)) ?_
        intro qcN n_
        clear H c_e c_p c_x z_x
        have H := n_
        clear n_
        have c_e := H.out.cell (g := ge) mem3
        have c_p := H.out.cell (g := gp) bK
        have c_x := H.out.cell (g := gx) dJ
        have z_x := H.out.frozen (g := gx) dJ
        go_wp2_with fail
        refine ⟨⟨_, i + 1, ds ++ d1, p2.2 + d1.length, some (p2, en), D :: mk, A2, c2, rfl, rfl, rfl, rfl, rfl, rfl, rfl, ?_, by omega, ?_, ⟨?_⟩, HFN, ⟨?_⟩⟩, ?_⟩
        ·rfl
        ·rw [List.length_append]
         omega
        ·rw [HM.out, List.length_append]
         omega
        ·exact (Sep.gI (Sep.gI (Sep.gI (Sep.gI (Sep.dV (Sep.drop1 (Sep.gK (Sep.jO H.out))))))))
        ·simp [intOf]
         omega
       ·
        rw [if_neg hto] at HFN
        go_wp2_with fail
        go_wp2_with fail
        refine ⟨⟨_, i + 1, ds ++ d1, p2.2 + d1.length, none, D :: mk, A2, c2, rfl, rfl, rfl, rfl, rfl, rfl, rfl, ?_, by omega, ?_, ⟨?_⟩, HFN, ⟨?_⟩⟩, ?_⟩
        ·rfl
        ·rw [List.length_append]
         omega
        ·rw [HM.out, List.length_append]
         omega
        ·exact (Sep.gI (Sep.gI (Sep.gI (Sep.gI (Sep.dV (Sep.drop1 (Sep.gK (Sep.jO H.out))))))))
        ·simp [intOf]
         omega
     ·
      have hqi : ¬ (p2.2 : Int) = (m : Int) := by omega
      have HNE := aA.mk hne
      clear hne
      have HFE := aA.mk (qbw HFI.out (ND hp2) HNE.out)
      have n_ : aA (Sep w wr (box gx [.slice A1 (bM ds n0).length c1, .int .u64 (n0 : Int), .int .u64 (m : Int), .string ⟨#[]⟩, .int .i64 0, .slice none 0 0] 129 :: row k62 62 (.slice A1 (bM ds n0).length c1) (bM ds n0) :: box gz [.slice none 0 0, .int .u64 0, .int .u64 0, .string ⟨#[]⟩, .int .i64 0, .slice none 0 0] 129 :: row dY 139 (.slice (some aq) (ps).length cq) ps :: marks mk)) := ⟨H.out⟩
      clear H c_x z_x c_z
      have H := n_
      clear n_
      have c_x := H.out.cell (g := gx) aJ
      have z_x := H.out.frozen (g := gx) aJ
      have c_z := H.out.cell (g := gz) mem2
      have z_z := H.out.frozen (g := gz) mem2
      have hcq : (ps.length : Int) ≤ (cq : Int) := by have := (H.out.reads (A := some aq) mem3).2.1; omega
      go_wp2_with (first
 |((with_reducible refine aP (N := 6) rfl ?_);
   refine bG rfl H (cs := [.string ⟨#[]⟩, .string ⟨#[]⟩, .int .i64 0, .int .u64 0]) (t := 139) ?hr ?_;
   (case hr => first | (go_simp; done) | (go_simp; rfl));
   intro gp qek n_;
   simp only [Act.put, zA, zZ, zS];
   clear H c_x z_x c_z z_z;
   have H := n_;
   clear n_;
   have c_p := H.out.cell (g := gp) aJ;
   have z_p := H.out.frozen (g := gp) aJ;
   have c_x := H.out.cell (g := gx) mem1;
   have z_x := H.out.frozen (g := gx) mem1;
   have c_z := H.out.cell (g := gz) mem3;
   have z_z := H.out.frozen (g := gz) mem3)
 |((with_reducible refine aN (t := 139) (p := 6) rfl ?_);
   refine aZ (rs1 := (box gp [.string p2.1.f0, .string p2.1.f1, .int .i64 p2.1.f2, .int .u64 (p2.2 : Int)] 139 :: box gx [.slice A1 (bM ds n0).length c1, .int .u64 (n0 : Int), .int .u64 (m : Int), .string ⟨#[]⟩, .int .i64 0, .slice none 0 0] 129 :: row k62 62 (.slice A1 (bM ds n0).length c1) (bM ds n0) :: box gz [.slice none 0 0, .int .u64 0, .int .u64 0, .string ⟨#[]⟩, .int .i64 0, .slice none 0 0] 129 :: row dY 139 (.slice (some aq) (ps).length cq) ps :: marks mk)) rfl (t := 139) (p := 6) rfl rfl ?hr (H1 := (Sep.set0 (Sep.set0 (Sep.set0 (Sep.set0 H.out 0 (.string p2.1.f0) rfl) 1 (.string p2.1.f1) rfl) 2 (.int .i64 p2.1.f2) rfl) 3 (.int .u64 (p2.2 : Int)) rfl)) ?_;
   (case hr => first | (go_simp; done) | (go_simp; rfl));
   intro qbC n_;
   clear H c_p z_p c_x z_x c_z z_z;
   have H := n_;
   clear n_;
   have c_p := H.out.cell (g := gp) aJ;
   have z_p := H.out.frozen (g := gp) aJ;
   have c_x := H.out.cell (g := gx) mem1;
   have z_x := H.out.frozen (g := gx) mem1;
   have c_z := H.out.cell (g := gz) mem3;
   have z_z := H.out.frozen (g := gz) mem3;
   clear h0 h1 h2 h3)
 |((with_reducible refine aN (t := 127) (p := 46) rfl ?_);
   refine aZ (rs1 := (box gp [.string p2.1.f0, .string p2.1.f1, .int .i64 p2.1.f2, .int .u64 (p2.2 : Int)] 139 :: box gx [.slice A1 (bM ds n0).length c1, .int .u64 (n0 : Int), .int .u64 (m : Int), .string ⟨#[]⟩, .int .i64 0, .slice (some (aq.add (i * 4))) (ps.length - i) (cq - i)] 129 :: row k62 62 (.slice A1 (bM ds n0).length c1) (bM ds n0) :: box gz [.slice none 0 0, .int .u64 0, .int .u64 0, .string ⟨#[]⟩, .int .i64 0, .slice none 0 0] 129 :: row dY 139 (.slice (some aq) (ps).length cq) ps :: marks mk)) rfl (t := 127) (p := 46) rfl rfl ?hr (H1 := (Sep.set1 H.out 5 (.slice (some (aq.add (i * 4))) (ps.length - i) (cq - i)) rfl)) ?_;
   (case hr => first | (go_simp; done) | (go_simp; rfl));
   intro qel n_;
   clear H c_p z_p c_x z_x c_z z_z;
   have H := n_;
   clear n_;
   have c_p := H.out.cell (g := gp) aJ;
   have z_p := H.out.frozen (g := gp) aJ;
   have c_x := H.out.cell (g := gx) mem1;
   have z_x := H.out.frozen (g := gx) mem1;
   have c_z := H.out.cell (g := gz) mem3;
   have z_z := H.out.frozen (g := gz) mem3)
 |((with_reducible refine aN (t := 129) (p := 2) rfl ?_);
   refine aZ (rs1 := (box gp [.string p2.1.f0, .string p2.1.f1, .int .i64 p2.1.f2, .int .u64 (p2.2 : Int)] 139 :: box gx [.slice A1 (bM ds n0).length c1, .int .u64 (n0 : Int), .int .u64 (m : Int), .string ⟨#[]⟩, .int .i64 0, .slice (some (aq.add (i * 4))) (ps.length - i) (cq - i)] 129 :: row k62 62 (.slice A1 (bM ds n0).length c1) (bM ds n0) :: box gz [.slice A1 (bM ds n0).length c1, .int .u64 (n0 : Int), .int .u64 (m : Int), .string ⟨#[]⟩, .int .i64 0, .slice (some (aq.add (i * 4))) (ps.length - i) (cq - i)] 129 :: row dY 139 (.slice (some aq) (ps).length cq) ps :: marks mk)) rfl (t := 129) (p := 2) rfl rfl ?hr (H1 := (Sep.dZ (Sep.dZ (Sep.dZ (Sep.dZ (Sep.dZ (Sep.dZ H.out 0 (.slice A1 (bM ds n0).length c1) rfl) 1 (.int .u64 (n0 : Int)) rfl) 2 (.int .u64 (m : Int)) rfl) 3 (.string ⟨#[]⟩) rfl) 4 (.int .i64 0) rfl) 5 (.slice (some (aq.add (i * 4))) (ps.length - i) (cq - i)) rfl)) ?_;
   (case hr => first | (go_simp; done) | (go_simp; rfl));
   intro qfa n_;
   clear H c_p z_p c_x z_x c_z z_z;
   have H := n_;
   clear n_;
   have c_p := H.out.cell (g := gp) aJ;
   have z_p := H.out.frozen (g := gp) aJ;
   have c_x := H.out.cell (g := gx) mem1;
   have z_x := H.out.frozen (g := gx) mem1;
   have c_z := H.out.cell (g := gz) mem3;
   have z_z := H.out.frozen (g := gz) mem3)
 |fail)
      have hln : (ps.drop i).length = ps.length - i := List.length_drop
      rw [← hln] at H
      obtain rfl := HFE.out
      exact xZ (ps := ps) (mk := mk) rfl (Sep.iQ (Sep.iP (Sep.iQ (Sep.dV (Sep.drop1 H.out))))) (fun w' h => by rw [hln]; exact yR h hi) (by rw [hln]; omega)
    | some tx =>
     have HFE := aA.mk (WO HFI.out)
     have hnt : (pX (some tx)).toList ≠ [] := (pJ HOK.out HPS.out (SS (S := SU) (n := n0) (x := tx) (by rw [← HF.out, HFE.out]))).2.2
     obtain ⟨tn, htn⟩ : ∃ tn, tn = pX (some tx) := ⟨_, rfl⟩
     obtain ⟨ta, hta⟩ : ∃ ta, ta = xY (some tx) := ⟨_, rfl⟩
     rw [← htn] at hnt
     rw [← htn, ← hta] at H
     have HTN := aA.mk htn
     have HTA := aA.mk hta
     clear htn hta
     clear c_x z_x c_z
     have c_x := H.out.cell (g := gx) aJ
     have z_x := H.out.frozen (g := gx) aJ
     have c_z := H.out.cell (g := gz) mem2
     have hnb : (tn.toList == ([] : List UInt8)) = false := beq_eq_false_iff_ne.2 hnt
     clear hnt
     by_cases hne : p2.2 = m
     ·
      subst hne
      have n_ : aA (Sep w wr (box gx [.slice A1 (bM ds n0).length c1, .int .u64 (n0 : Int), .int .u64 (p2.2 : Int), .string tn, .int .i64 ta, .slice none 0 0] 129 :: row k62 62 (.slice A1 (bM ds n0).length c1) (bM ds n0) :: box gz [.slice none 0 0, .int .u64 0, .int .u64 0, .string ⟨#[]⟩, .int .i64 0, .slice none 0 0] 129 :: row dY 139 (.slice (some aq) (ps).length cq) ps :: marks mk)) := ⟨H.out⟩
      clear H c_x z_x c_z
      have H := n_
      clear n_
      have c_x := H.out.cell (g := gx) aJ
      have z_x := H.out.frozen (g := gx) aJ
      have c_z := H.out.cell (g := gz) mem2
      have z_z := H.out.frozen (g := gz) mem2
      have hcq : (ps.length : Int) ≤ (cq : Int) := by have := (H.out.reads (A := some aq) mem3).2.1; omega
      go_wp2_with (first
 |((with_reducible refine aP (N := 6) rfl ?_);
   refine bG rfl H (cs := [.string ⟨#[]⟩, .string ⟨#[]⟩, .int .i64 0, .int .u64 0]) (t := 139) ?hr ?_;
   (case hr => first | (go_simp; done) | (go_simp; rfl));
   intro gp qem n_;
   simp only [Act.put, zA, zZ, zS];
   clear H c_x z_x c_z z_z;
   have H := n_;
   clear n_;
   have c_p := H.out.cell (g := gp) aJ;
   have z_p := H.out.frozen (g := gp) aJ;
   have c_x := H.out.cell (g := gx) mem1;
   have z_x := H.out.frozen (g := gx) mem1;
   have c_z := H.out.cell (g := gz) mem3;
   have z_z := H.out.frozen (g := gz) mem3)
 |((with_reducible refine aN (t := 139) (p := 6) rfl ?_);
   refine aZ (rs1 := (box gp [.string p2.1.f0, .string p2.1.f1, .int .i64 p2.1.f2, .int .u64 (p2.2 : Int)] 139 :: box gx [.slice A1 (bM ds n0).length c1, .int .u64 (n0 : Int), .int .u64 (p2.2 : Int), .string tn, .int .i64 ta, .slice none 0 0] 129 :: row k62 62 (.slice A1 (bM ds n0).length c1) (bM ds n0) :: box gz [.slice none 0 0, .int .u64 0, .int .u64 0, .string ⟨#[]⟩, .int .i64 0, .slice none 0 0] 129 :: row dY 139 (.slice (some aq) (ps).length cq) ps :: marks mk)) rfl (t := 139) (p := 6) rfl rfl ?hr (H1 := (Sep.set0 (Sep.set0 (Sep.set0 (Sep.set0 H.out 0 (.string p2.1.f0) rfl) 1 (.string p2.1.f1) rfl) 2 (.int .i64 p2.1.f2) rfl) 3 (.int .u64 (p2.2 : Int)) rfl)) ?_;
   (case hr => first | (go_simp; done) | (go_simp; rfl));
   intro qcO n_;
   clear H c_p z_p c_x z_x c_z z_z;
   have H := n_;
   clear n_;
   have c_p := H.out.cell (g := gp) aJ;
   have z_p := H.out.frozen (g := gp) aJ;
   have c_x := H.out.cell (g := gx) mem1;
   have z_x := H.out.frozen (g := gx) mem1;
   have c_z := H.out.cell (g := gz) mem3;
   have z_z := H.out.frozen (g := gz) mem3;
   clear h0 h1 h2 h3)
 |((with_reducible refine aN (t := 127) (p := 46) rfl ?_);
   refine aZ (rs1 := (box gp [.string p2.1.f0, .string p2.1.f1, .int .i64 p2.1.f2, .int .u64 (p2.2 : Int)] 139 :: box gx [.slice A1 (bM ds n0).length c1, .int .u64 (n0 : Int), .int .u64 (p2.2 : Int), .string tn, .int .i64 ta, .slice (some (aq.add (i * 4))) (ps.length - i) (cq - i)] 129 :: row k62 62 (.slice A1 (bM ds n0).length c1) (bM ds n0) :: box gz [.slice none 0 0, .int .u64 0, .int .u64 0, .string ⟨#[]⟩, .int .i64 0, .slice none 0 0] 129 :: row dY 139 (.slice (some aq) (ps).length cq) ps :: marks mk)) rfl (t := 127) (p := 46) rfl rfl ?hr (H1 := (Sep.set1 H.out 5 (.slice (some (aq.add (i * 4))) (ps.length - i) (cq - i)) rfl)) ?_;
   (case hr => first | (go_simp; done) | (go_simp; rfl));
   intro qen n_;
   clear H c_p z_p c_x z_x c_z z_z;
   have H := n_;
   clear n_;
   have c_p := H.out.cell (g := gp) aJ;
   have z_p := H.out.frozen (g := gp) aJ;
   have c_x := H.out.cell (g := gx) mem1;
   have z_x := H.out.frozen (g := gx) mem1;
   have c_z := H.out.cell (g := gz) mem3;
   have z_z := H.out.frozen (g := gz) mem3)
 |((with_reducible refine aN (t := 129) (p := 2) rfl ?_);
   refine aZ (rs1 := (box gp [.string p2.1.f0, .string p2.1.f1, .int .i64 p2.1.f2, .int .u64 (p2.2 : Int)] 139 :: box gx [.slice A1 (bM ds n0).length c1, .int .u64 (n0 : Int), .int .u64 (p2.2 : Int), .string tn, .int .i64 ta, .slice (some (aq.add (i * 4))) (ps.length - i) (cq - i)] 129 :: row k62 62 (.slice A1 (bM ds n0).length c1) (bM ds n0) :: box gz [.slice A1 (bM ds n0).length c1, .int .u64 (n0 : Int), .int .u64 (p2.2 : Int), .string tn, .int .i64 ta, .slice (some (aq.add (i * 4))) (ps.length - i) (cq - i)] 129 :: row dY 139 (.slice (some aq) (ps).length cq) ps :: marks mk)) rfl (t := 129) (p := 2) rfl rfl ?hr (H1 := (Sep.dZ (Sep.dZ (Sep.dZ (Sep.dZ (Sep.dZ (Sep.dZ H.out 0 (.slice A1 (bM ds n0).length c1) rfl) 1 (.int .u64 (n0 : Int)) rfl) 2 (.int .u64 (p2.2 : Int)) rfl) 3 (.string tn) rfl) 4 (.int .i64 ta) rfl) 5 (.slice (some (aq.add (i * 4))) (ps.length - i) (cq - i)) rfl)) ?_;
   (case hr => first | (go_simp; done) | (go_simp; rfl));
   intro qfb n_;
   clear H c_p z_p c_x z_x c_z z_z;
   have H := n_;
   clear n_;
   have c_p := H.out.cell (g := gp) aJ;
   have z_p := H.out.frozen (g := gp) aJ;
   have c_x := H.out.cell (g := gx) mem1;
   have z_x := H.out.frozen (g := gx) mem1;
   have c_z := H.out.cell (g := gz) mem3;
   have z_z := H.out.frozen (g := gz) mem3)
 |fail)
      have hln : (ps.drop i).length = ps.length - i := List.length_drop
      rw [← hln, HTN.out, HTA.out] at H
      obtain rfl := HFE.out
      exact xZ (ps := ps) (mk := mk) rfl (Sep.iQ (Sep.iP (Sep.iQ (Sep.dV (Sep.drop1 H.out))))) (fun w' h => by rw [hln]; exact yR h hi) (by rw [hln]; omega)
     ·
      have hqi : ¬ (p2.2 : Int) = (m : Int) := by omega
      clear hne
      have n_ : aA (Sep w wr (box gx [.slice A1 (bM ds n0).length c1, .int .u64 (n0 : Int), .int .u64 (m : Int), .string tn, .int .i64 ta, .slice none 0 0] 129 :: row k62 62 (.slice A1 (bM ds n0).length c1) (bM ds n0) :: box gz [.slice none 0 0, .int .u64 0, .int .u64 0, .string ⟨#[]⟩, .int .i64 0, .slice none 0 0] 129 :: row dY 139 (.slice (some aq) (ps).length cq) ps :: marks mk)) := ⟨H.out⟩
      clear H c_x z_x c_z
      have H := n_
      clear n_
      have c_x := H.out.cell (g := gx) aJ
      have z_x := H.out.frozen (g := gx) aJ
      have c_z := H.out.cell (g := gz) mem2
      have z_z := H.out.frozen (g := gz) mem2
      have hcq : (ps.length : Int) ≤ (cq : Int) := by have := (H.out.reads (A := some aq) mem3).2.1; omega
      go_wp2_with (first
 |((with_reducible refine aP (N := 6) rfl ?_);
   refine bG rfl H (cs := [.string ⟨#[]⟩, .string ⟨#[]⟩, .int .i64 0, .int .u64 0]) (t := 139) ?hr ?_;
   (case hr => first | (go_simp; done) | (go_simp; rfl));
   intro gp qfc n_;
   simp only [Act.put, zA, zZ, zS];
   clear H c_x z_x c_z z_z;
   have H := n_;
   clear n_;
   have c_p := H.out.cell (g := gp) aJ;
   have z_p := H.out.frozen (g := gp) aJ;
   have c_x := H.out.cell (g := gx) mem1;
   have z_x := H.out.frozen (g := gx) mem1;
   have c_z := H.out.cell (g := gz) mem3;
   have z_z := H.out.frozen (g := gz) mem3)
 |((with_reducible refine aN (t := 139) (p := 6) rfl ?_);
   refine aZ (rs1 := (box gp [.string p2.1.f0, .string p2.1.f1, .int .i64 p2.1.f2, .int .u64 (p2.2 : Int)] 139 :: box gx [.slice A1 (bM ds n0).length c1, .int .u64 (n0 : Int), .int .u64 (m : Int), .string tn, .int .i64 ta, .slice none 0 0] 129 :: row k62 62 (.slice A1 (bM ds n0).length c1) (bM ds n0) :: box gz [.slice none 0 0, .int .u64 0, .int .u64 0, .string ⟨#[]⟩, .int .i64 0, .slice none 0 0] 129 :: row dY 139 (.slice (some aq) (ps).length cq) ps :: marks mk)) rfl (t := 139) (p := 6) rfl rfl ?hr (H1 := (Sep.set0 (Sep.set0 (Sep.set0 (Sep.set0 H.out 0 (.string p2.1.f0) rfl) 1 (.string p2.1.f1) rfl) 2 (.int .i64 p2.1.f2) rfl) 3 (.int .u64 (p2.2 : Int)) rfl)) ?_;
   (case hr => first | (go_simp; done) | (go_simp; rfl));
   intro qfd n_;
   clear H c_p z_p c_x z_x c_z z_z;
   have H := n_;
   clear n_;
   have c_p := H.out.cell (g := gp) aJ;
   have z_p := H.out.frozen (g := gp) aJ;
   have c_x := H.out.cell (g := gx) mem1;
   have z_x := H.out.frozen (g := gx) mem1;
   have c_z := H.out.cell (g := gz) mem3;
   have z_z := H.out.frozen (g := gz) mem3;
   clear h0 h1 h2 h3)
 |((with_reducible refine aN (t := 127) (p := 46) rfl ?_);
   refine aZ (rs1 := (box gp [.string p2.1.f0, .string p2.1.f1, .int .i64 p2.1.f2, .int .u64 (p2.2 : Int)] 139 :: box gx [.slice A1 (bM ds n0).length c1, .int .u64 (n0 : Int), .int .u64 (m : Int), .string tn, .int .i64 ta, .slice (some (aq.add (i * 4))) (ps.length - i) (cq - i)] 129 :: row k62 62 (.slice A1 (bM ds n0).length c1) (bM ds n0) :: box gz [.slice none 0 0, .int .u64 0, .int .u64 0, .string ⟨#[]⟩, .int .i64 0, .slice none 0 0] 129 :: row dY 139 (.slice (some aq) (ps).length cq) ps :: marks mk)) rfl (t := 127) (p := 46) rfl rfl ?hr (H1 := (Sep.set1 H.out 5 (.slice (some (aq.add (i * 4))) (ps.length - i) (cq - i)) rfl)) ?_;
   (case hr => first | (go_simp; done) | (go_simp; rfl));
   intro qbD n_;
   clear H c_p z_p c_x z_x c_z z_z;
   have H := n_;
   clear n_;
   have c_p := H.out.cell (g := gp) aJ;
   have z_p := H.out.frozen (g := gp) aJ;
   have c_x := H.out.cell (g := gx) mem1;
   have z_x := H.out.frozen (g := gx) mem1;
   have c_z := H.out.cell (g := gz) mem3;
   have z_z := H.out.frozen (g := gz) mem3)
 |((with_reducible refine aN (t := 129) (p := 2) rfl ?_);
   refine aZ (rs1 := (box gp [.string p2.1.f0, .string p2.1.f1, .int .i64 p2.1.f2, .int .u64 (p2.2 : Int)] 139 :: box gx [.slice A1 (bM ds n0).length c1, .int .u64 (n0 : Int), .int .u64 (m : Int), .string tn, .int .i64 ta, .slice (some (aq.add (i * 4))) (ps.length - i) (cq - i)] 129 :: row k62 62 (.slice A1 (bM ds n0).length c1) (bM ds n0) :: box gz [.slice A1 (bM ds n0).length c1, .int .u64 (n0 : Int), .int .u64 (m : Int), .string tn, .int .i64 ta, .slice (some (aq.add (i * 4))) (ps.length - i) (cq - i)] 129 :: row dY 139 (.slice (some aq) (ps).length cq) ps :: marks mk)) rfl (t := 129) (p := 2) rfl rfl ?hr (H1 := (Sep.dZ (Sep.dZ (Sep.dZ (Sep.dZ (Sep.dZ (Sep.dZ H.out 0 (.slice A1 (bM ds n0).length c1) rfl) 1 (.int .u64 (n0 : Int)) rfl) 2 (.int .u64 (m : Int)) rfl) 3 (.string tn) rfl) 4 (.int .i64 ta) rfl) 5 (.slice (some (aq.add (i * 4))) (ps.length - i) (cq - i)) rfl)) ?_;
   (case hr => first | (go_simp; done) | (go_simp; rfl));
   intro qcP n_;
   clear H c_p z_p c_x z_x c_z z_z;
   have H := n_;
   clear n_;
   have c_p := H.out.cell (g := gp) aJ;
   have z_p := H.out.frozen (g := gp) aJ;
   have c_x := H.out.cell (g := gx) mem1;
   have z_x := H.out.frozen (g := gx) mem1;
   have c_z := H.out.cell (g := gz) mem3;
   have z_z := H.out.frozen (g := gz) mem3)
 |fail)
      have hln : (ps.drop i).length = ps.length - i := List.length_drop
      rw [← hln, HTN.out, HTA.out] at H
      obtain rfl := HFE.out
      exact xZ (ps := ps) (mk := mk) rfl (Sep.iQ (Sep.iP (Sep.iQ (Sep.dV (Sep.drop1 H.out))))) (fun w' h => by rw [hln]; exact yR h hi) (by rw [hln]; omega)
   ·
    have hdr : ps.drop i = [] := List.drop_eq_nil_of_le (by omega)
    have HFE : aA (F = ⟨ds, m, t, []⟩) := ⟨by
     cases t with
     | none => exact qej HFI.out (by omega)
     | some tx => rw [WO HFI.out, hdr]⟩
    obtain ⟨tn, htn⟩ : ∃ tn, tn = pX t := ⟨_, rfl⟩
    obtain ⟨ta, hta⟩ : ∃ ta, ta = xY t := ⟨_, rfl⟩
    rw [← htn, ← hta] at H
    have HTN := aA.mk htn
    have HTA := aA.mk hta
    clear htn hta hdr
    have qhY : (ps.length : Int) ≤ (i : Int) := by omega
    have c_x := H.out.cell (g := gx) aJ
    have c_z := H.out.cell (g := gz) mem2
    have z_z := H.out.frozen (g := gz) mem2
    go_wp2_with (first
 |((with_reducible refine aN (t := 129) (p := 2) rfl ?_);
   refine aZ (rs1 := (box gx [.slice A1 (bM ds n0).length c1, .int .u64 (n0 : Int), .int .u64 (m : Int), .string tn, .int .i64 ta, .slice none 0 0] 129 :: row k62 62 (.slice A1 (bM ds n0).length c1) (bM ds n0) :: box gz [.slice A1 (bM ds n0).length c1, .int .u64 (n0 : Int), .int .u64 (m : Int), .string tn, .int .i64 ta, .slice none 0 0] 129 :: row dY 139 (.slice (some aq) (ps).length cq) ps :: marks mk)) rfl (t := 129) (p := 2) rfl rfl ?hr (H1 := (Sep.set2 (Sep.set2 (Sep.set2 (Sep.set2 (Sep.set2 (Sep.set2 H.out 0 (.slice A1 (bM ds n0).length c1) rfl) 1 (.int .u64 (n0 : Int)) rfl) 2 (.int .u64 (m : Int)) rfl) 3 (.string tn) rfl) 4 (.int .i64 ta) rfl) 5 (.slice none 0 0) rfl)) ?_;
   (case hr => first | (go_simp; done) | (go_simp; rfl));
   intro qfe n_;
   clear H c_x c_z z_z;
   have H := n_;
   clear n_;
   have c_x := H.out.cell (g := gx) aJ;
   have c_z := H.out.cell (g := gz) mem2;
   have z_z := H.out.frozen (g := gz) mem2)
 |fail)
    rw [HTN.out, HTA.out] at H
    obtain rfl := HFE.out
    exact xZ (ps := ps) (mk := mk) rfl (Sep.iQ (Sep.iP (Sep.iQ (Sep.dV H.out)))) (fun w' h => Kd.C_nil _ _) (Nat.le_refl _)
end Go.Proofs.U
