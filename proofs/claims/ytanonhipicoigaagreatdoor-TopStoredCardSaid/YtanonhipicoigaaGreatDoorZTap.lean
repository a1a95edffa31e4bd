import Derived.RecoverIn
import Derived.DefersIn
import Derived.Test.YtanonhipicoigaaGreatDoorZTai
import Derived.Test.YtanonhipicoigaaGreatDoorZTao
import Derived.Test.YtanonhipicoigaaGreatDoorZTal
import Derived.Test.YtanonhipicoigaaGreatDoorZTak
import Derived.Test.YtanonhipicoigaaGreatDoorZTag
set_option linter.unusedVariables false
set_option linter.unusedSimpArgs false
set_option maxRecDepth 100000
namespace Go.Proofs.U
open Go.RowKit Go.Proofs.aA.aK Go.Proofs.aA.aW Go.Proofs.aA.aZ Go.Proofs.Sp Go.Proofs.dZ
theorem lines_any (s : ByteArray) (w : World) : Calls Tryz.prog 65 #[.string s] w fun e w' => ∃ gs, e = .returned (.func (.func 103) #[] #[.pointer (some ⟨gs, 0, none⟩)]) ∧ aC (Sep w w' [box gs [.string s] 9]) := by
 have hmf : ∀ (fn : Fn) (first cap : Array Value) (w : World), (Instr.makeFunc fn first cap).run Tryz.prog w = .ok (.func fn first cap) w := fun _ _ _ _ => rfl
 have H := aC.mk (Sep.start w)
 go_enter Tryz.func65, Tryz.ntmps65
 go_wp2_with (first
 |((with_reducible refine aV (N := 1) rfl ?_);
   refine bP rfl H (cs := [.string s]) (t := 9) ?hr ?_;
   (case hr => first | (go_simp; done) | (go_simp; rfl));
   intro gs wd1 n_;
   simp only [Act.put, zA, zZ, zS];
   clear H;
   have H := n_;
   clear n_;
   have c_s := H.out.cell (g := gs) aQ)
 |fail)
 go_ret
 exact ⟨gs, rfl, H⟩
theorem V7 (b0 : World) (gs : Nat) : U2 Tryz.prog b0 103 #[.pointer (some ⟨gs, 0, none⟩)] (fun _ : Unit => #[Value.agg #[]]) ([] : List Unit) (fun _ => [box gs [.string ⟨#[]⟩] 9]) := by
 intro l T W hY HH
 obtain ⟨ts0, hT0, H⟩ := HH
 refine callsIn_wide.2 ?_
 have H1 : aC (Sep b0 W (box gs [.string ⟨#[]⟩] 9 :: ts0)) := H
 have HT := aC.mk hT0
 clear H hY hT0
 have c_s := H1.out.cell (g := gs) aQ
 go_enter Tryz.func103, Tryz.ntmps103
 go_wp2_with fail
 go_loopw [3, 4, 5, 6, 7] (fun v3 v4 v5 v6 v7 wr => aC (Sep b0 wr (box gs [.string ⟨#[]⟩] 9 :: ts0))) (fun _ _ _ _ _ _ => 0)
 case atStart => exact H1
 case round =>
  clear H1 c_s
  have H1 := hrel
  have c_s := H1.out.cell (g := gs) aQ
  go_wp2_with fail
  refine bodyPost_end (results_none rfl _ _ _) rfl ?_
  exact ⟨⟨_, rfl⟩, ts0, HT.out, H1⟩
theorem TF {P : Program} {fn : Func} {p q r : Tmp} {ty u y : TypeId} (h : fn.results = #[.cell p ty, .cell q u, .cell r y]) (tmps : Array Value) (w : World) (g : Nat) (t : TypeId) (cs : Array Value) (fr : Nat × Nat) (d : TypeDesc) (g2 g3 : Nat) (v v3 : Value)
  (hp : tmps.getD p undef = .pointer (some ⟨g, 0, none⟩)) (hg : w.heap[g]? = some (.cells cs t fr))
  (hu : P.underlying ty = some d) (hd : (match d with | .struct _ | .array _ _ => true | _ => false) = true) (hi : (P.info? ty).map (·.size) = some cs.size)
  (hq : tmps.getD q undef = .pointer (some ⟨g2, 0, none⟩)) (hl : (loadVar u ⟨g2, 0, none⟩).run P w = .ok v w)
  (hr : tmps.getD r undef = .pointer (some ⟨g3, 0, none⟩)) (hl3 : (loadVar y ⟨g3, 0, none⟩).run P w = .ok v3 w) :
  (results fn tmps).run P w = .ok (.tuple #[.agg cs, v, v3]) w := by
 have hp' : tmps[p]?.getD undef = .pointer (some ⟨g, 0, none⟩) := by simpa using hp
 have hq' : tmps[q]?.getD undef = .pointer (some ⟨g2, 0, none⟩) := by simpa using hq
 have hr' : tmps[r]?.getD undef = .pointer (some ⟨g3, 0, none⟩) := by simpa using hr
 simp [results, h, hp', hq', hr', asAddr, run_loadVar_row w g t ty cs fr d hg hu hd hi, hl, hl3]
theorem qfk {w : World} {g : Nat} {v : Value} (h : ∀ j, w.cell? ⟨g, j, none⟩ = [v][j]?) : (loadVar 3 ⟨g, 0, none⟩).run Tryz.prog w = .ok v w := by
 have h0 : w.cell? ⟨g, 0, none⟩ = some v := h 0
 simp [loadVar, go_sem, Tryz.underlying3, h0]
theorem qex : (Tryz.prog.info? 50).map (fun i => i.size) = some 4 := by kernel_rfl
set_option maxHeartbeats 4000000 in
theorem V8 (g2 g3 : Nat) (w : World) :
  CallsDIn Fence.wide 0 Tryz.prog 64 #[.pointer (some ⟨g2, 0, none⟩), .pointer (some ⟨g3, 0, none⟩)] .returning w fun e u' w' => e = .returned (.tuple #[]) ∧ u' = .returning ∧ w' = w := by
 refine callsDIn_of_wpSIn Tryz.func64 rfl trivial fun c₀ cs hu => ?_
 apply wpSIn_seq
 apply wpSIn_region
 simp [wpOpsSIn, go_sem, recoverD, hu, Tryz.ntmps64, Exit.thenS]
 apply wpSIn_seq
 apply wpSIn_region
 simp [wpOpsSIn, go_sem, recoverD, hu, Tryz.ntmps64, Exit.thenS]
 refine wpSIn_cond (t := false) (by simp [Act.eval, Array.replicate]) ?_
 simp only [Bool.false_eq_true, if_false]
 refine wpSIn_of_wpIn rfl (wpIn_wide.2 (wp_skip ?_))
 cases c₀
 simp_all [bodyPostS, results, Tryz.results64]
set_option maxHeartbeats 4000000 in
theorem parse_empty (w : World) : Calls Tryz.prog 24 #[.string ⟨#[]⟩] w fun e w' => (∃ v, e = .returned (.tuple #[v, .int .i64 0, .int .i64 0])) ∧ Below w.heap.size w w' := by
 have H := aC.mk (Sep.start w)
 have hmf : ∀ (fn : Fn) (first cap : Array Value) (w : World), (Instr.makeFunc fn first cap).run Tryz.prog w = .ok (.func fn first cap) w := fun _ _ _ _ => rfl
 refine callsIn_wide.1 (callsIn_of_wp_marks (n := 0) Tryz.func24 rfl trivial (wpIn_wide.2 ?_))
 simp only [List.size_toArray, List.length_cons, List.length_nil, Tryz.ntmps24, Nat.reduceAdd, Nat.reduceSub, Array.replicate_succ, Array.replicate_zero, List.push_toArray, List.append_toArray, List.nil_append, List.cons_append]
 go_wp2_with (first
 |((with_reducible refine aV (N := 2) rfl ?_);
   refine bP rfl H (cs := [.int .u8 0, .string ⟨#[]⟩, .slice none 0 0, .slice none 0 0]) (t := 50) ?hr ?_;
   (case hr => first | (go_simp; done) | (go_simp; rfl));
   intro gn wd2 n_;
   simp only [Act.put, zA, zZ, zS];
   clear H;
   have H := n_;
   clear n_;
   have c_n := H.out.cell (g := gn) aQ)
 |((with_reducible refine aV (N := 3) rfl ?_);
   refine bP rfl H (cs := [.int .i64 0]) (t := 34) ?hr ?_;
   (case hr => first | (go_simp; done) | (go_simp; rfl));
   intro gy wd3 n_;
   simp only [Act.put, zA, zZ, zS];
   clear H c_n;
   have H := n_;
   clear n_;
   have c_y := H.out.cell (g := gy) aQ;
   have c_n := H.out.cell (g := gn) mem1)
 |((with_reducible refine aV (N := 4) rfl ?_);
   refine bP rfl H (cs := [.int .i64 0]) (t := 3) ?hr ?_;
   (case hr => first | (go_simp; done) | (go_simp; rfl));
   intro ga wd4 n_;
   simp only [Act.put, zA, zZ, zS];
   clear H c_y c_n;
   have H := n_;
   clear n_;
   have c_a := H.out.cell (g := ga) aQ;
   have c_y := H.out.cell (g := gy) mem1;
   have c_n := H.out.cell (g := gn) mem2)
 |((with_reducible refine aV (N := 5) rfl ?_);
   refine bP rfl H (cs := [.int .u8 0, .string ⟨#[]⟩, .slice none 0 0, .slice none 0 0]) (t := 50) ?hr ?_;
   (case hr => first | (go_simp; done) | (go_simp; rfl));
   intro gr wd5 n_;
   simp only [Act.put, zA, zZ, zS];
   clear H c_a c_y c_n;
   have H := n_;
   clear n_;
   have c_r := H.out.cell (g := gr) aQ;
   have c_a := H.out.cell (g := ga) mem1;
   have c_y := H.out.cell (g := gy) mem2;
   have c_n := H.out.cell (g := gn) mem3)
 |((with_reducible refine aV (N := 14) rfl ?_);
   refine XC rfl H [.pointer (some ⟨gr, 0, none⟩), .int .i64 0] 115 1 ?hr ?_;
   (case hr => first | (go_simp; done) | (go_simp; rfl));
   intro gl wd6 n_;
   simp only [Act.put, zA, zZ, zS];
   clear H c_r c_a c_y c_n;
   have H := n_;
   clear n_;
   have c_l := H.out.cell (g := gl) aQ;
   have c_r := H.out.cell (g := gr) mem1;
   have c_a := H.out.cell (g := ga) mem2;
   have c_y := H.out.cell (g := gy) mem3;
   have c_n := H.out.cell (g := gn) dM)
 |((with_reducible refine aV (N := 16) rfl ?_);
   refine bP rfl H (cs := [.slice (some ⟨gl, 0, none⟩) 1 1, .bool false]) (t := 118) ?hr ?_;
   (case hr => first | (go_simp; done) | (go_simp; rfl));
   intro gd wd7 n_;
   simp only [Act.put, zA, zZ, zS];
   clear H c_l c_r c_a c_y c_n;
   have H := n_;
   clear n_;
   have c_d := H.out.cell (g := gd) aQ;
   have c_l := H.out.cell (g := gl) mem1;
   have c_r := H.out.cell (g := gr) mem2;
   have c_a := H.out.cell (g := ga) mem3;
   have c_y := H.out.cell (g := gy) dM;
   have c_n := H.out.cell (g := gn) eF)
 |((with_reducible refine aV (N := 6) rfl ?_);
   refine bP rfl H (cs := [.pointer none]) (t := 112) ?hr ?_;
   (case hr => first | (go_simp; done) | (go_simp; rfl));
   intro gp wd8 n_;
   simp only [Act.put, zA, zZ, zS];
   clear H c_d c_l c_r c_a c_y c_n;
   have H := n_;
   clear n_;
   have c_p := H.out.cell (g := gp) aQ;
   have z_p := H.out.frozen (g := gp) aQ;
   have c_d := H.out.cell (g := gd) mem1;
   have c_l := H.out.cell (g := gl) mem2;
   have c_r := H.out.cell (g := gr) mem3;
   have c_a := H.out.cell (g := ga) dM;
   have c_y := H.out.cell (g := gy) eF;
   have c_n := H.out.cell (g := gn) rP)
 |((with_reducible refine aX (t := 112) (p := 6) rfl ?_);
   refine bM (rs1 := [box gp [.pointer (some ⟨gd, 0, none⟩)] 112, box gd [.slice (some ⟨gl, 0, none⟩) 1 1, .bool false] 118, box gl [.pointer (some ⟨gr, 0, none⟩), .int .i64 0] 115, box gr [.int .u8 0, .string ⟨#[]⟩, .slice none 0 0, .slice none 0 0] 50, box ga [.int .i64 0] 3, box gy [.int .i64 0] 34, box gn [.int .u8 0, .string ⟨#[]⟩, .slice none 0 0, .slice none 0 0] 50]) rfl (t := 112) (p := 6) rfl rfl ?hr (H1 := (Sep.set0 H.out 0 (.pointer (some ⟨gd, 0, none⟩)) rfl)) ?_;
   (case hr => first | (go_simp; done) | (go_simp; rfl));
   intro wd9 n_;
   clear H c_p z_p c_d c_l c_r c_a c_y c_n;
   have H := n_;
   clear n_;
   have c_p := H.out.cell (g := gp) aQ;
   have z_p := H.out.frozen (g := gp) aQ;
   have c_d := H.out.cell (g := gd) mem1;
   have c_l := H.out.cell (g := gl) mem2;
   have c_r := H.out.cell (g := gr) mem3;
   have c_a := H.out.cell (g := ga) dM;
   have c_y := H.out.cell (g := gy) eF;
   have c_n := H.out.cell (g := gn) rP)
 |fail)
 refine ((lines_any _ _).mono ?_)
 rintro e FN ⟨gs, rfl, HJ⟩
 have n_ : aC (Sep w FN [box gs [.string ⟨#[]⟩] 9, box gp [.pointer (some ⟨gd, 0, none⟩)] 112, box gd [.slice (some ⟨gl, 0, none⟩) 1 1, .bool false] 118, box gl [.pointer (some ⟨gr, 0, none⟩), .int .i64 0] 115, box gr [.int .u8 0, .string ⟨#[]⟩, .slice none 0 0, .slice none 0 0] 50, box ga [.int .i64 0] 3, box gy [.int .i64 0] 34, box gn [.int .u8 0, .string ⟨#[]⟩, .slice none 0 0, .slice none 0 0] 50]) := ⟨gX H.out HJ.out⟩
 clear H c_p z_p c_d c_l c_r c_a c_y c_n
 have H := n_
 clear n_
 have c_s := H.out.cell (g := gs) aQ
 have c_p := H.out.cell (g := gp) mem1
 have z_p := H.out.frozen (g := gp) mem1
 have c_d := H.out.cell (g := gd) mem2
 have c_l := H.out.cell (g := gl) mem3
 have c_r := H.out.cell (g := gr) dM
 have c_a := H.out.cell (g := ga) eF
 have c_y := H.out.cell (g := gy) rP
 have c_n := H.out.cell (g := gn) sF
 clear HJ
 go_wp2_with fail
 refine MO (b := w) (gf := 103) (lb := #[.pointer (some ⟨gs, 0, none⟩)]) (fun _ : Unit => #[Value.agg #[]]) ([] : List Unit) (fun _ => [box gs [.string ⟨#[]⟩] 9]) (fun _ rs => rs = [box gp [.pointer (some ⟨gd, 0, none⟩)] 112, box gd [.slice (some ⟨gl, 0, none⟩) 1 1, .bool false] 118, box gl [.pointer (some ⟨gr, 0, none⟩), .int .i64 0] 115, box gr [.int .u8 0, .string ⟨#[]⟩, .slice none 0 0, .slice none 0 0] 50, box ga [.int .i64 0] 3, box gy [.int .i64 0] 34, box gn [.int .u8 0, .string ⟨#[]⟩, .slice none 0 0, .slice none 0 0] 50])
  (fun _ _ _ _ => False) [box gp [.pointer (some ⟨gd, 0, none⟩)] 112, box gd [.slice (some ⟨gl, 0, none⟩) 1 1, .bool false] 118, box gl [.pointer (some ⟨gr, 0, none⟩), .int .i64 0] 115, box gr [.int .u8 0, .string ⟨#[]⟩, .slice none 0 0, .slice none 0 0] 50, box ga [.int .i64 0] 3, box gy [.int .i64 0] 34, box gn [.int .u8 0, .string ⟨#[]⟩, .slice none 0 0, .slice none 0 0] 50] (by rfl) (fun args w => by simp [go_sem]) (fun x => rfl) (V7 w gs) rfl H ?_ ?_ ?_
 ·intro l_ S pre x post W1 rs K_ hx
  cases pre <;> cases hx
 ·intro l_ S pre x post a1 W2 ms hx
  cases pre <;> cases hx
 ·intro D W2 rs hR H
  subst hR
  have H1 : aC (Sep w W2 [box gp [.pointer (some ⟨gd, 0, none⟩)] 112, box gd [.slice (some ⟨gl, 0, none⟩) 1 1, .bool false] 118, box gl [.pointer (some ⟨gr, 0, none⟩), .int .i64 0] 115, box gr [.int .u8 0, .string ⟨#[]⟩, .slice none 0 0, .slice none 0 0] 50, box ga [.int .i64 0] 3, box gy [.int .i64 0] 34, box gn [.int .u8 0, .string ⟨#[]⟩, .slice none 0 0, .slice none 0 0] 50, box gs [.string ⟨#[]⟩] 9, thing D (.deferred (some []))]) := H
  clear H c_s c_p z_p c_d c_l c_r c_a c_y c_n
  have H := H1
  clear H1
  have c_p := H.out.cell (g := gp) aQ
  have c_d := H.out.cell (g := gd) mem1
  have c_l := H.out.cell (g := gl) mem2
  have c_r := H.out.cell (g := gr) mem3
  have c_a := H.out.cell (g := ga) dM
  have z_a := H.out.frozen (g := ga) dM
  have c_y := H.out.cell (g := gy) eF
  have z_y := H.out.frozen (g := gy) eF
  have c_n := H.out.cell (g := gn) rP
  have z_n := H.out.frozen (g := gn) rP
  have c_s := H.out.cell (g := gs) sF
  go_wp2_with (first
 |((with_reducible refine aX (t := 50) (p := 2) rfl ?_);
   refine bM (rs1 := [box gp [.pointer (some ⟨gd, 0, none⟩)] 112, box gd [.slice (some ⟨gl, 0, none⟩) 1 1, .bool false] 118, box gl [.pointer (some ⟨gr, 0, none⟩), .int .i64 0] 115, box gr [.int .u8 0, .string ⟨#[]⟩, .slice none 0 0, .slice none 0 0] 50, box ga [.int .i64 0] 3, box gy [.int .i64 0] 34, box gn [.int .u8 0, .string ⟨#[]⟩, .slice none 0 0, .slice none 0 0] 50, box gs [.string ⟨#[]⟩] 9, thing D (.deferred (some []))]) rfl (t := 50) (p := 2) rfl rfl ?hr (H1 := (Sep.qcB (Sep.qcB (Sep.qcB (Sep.qcB H.out 0 (.int .u8 0) rfl) 1 (.string ⟨#[]⟩) rfl) 2 (.slice none 0 0) rfl) 3 (.slice none 0 0) rfl)) ?_;
   (case hr => first | (go_simp; done) | (go_simp; rfl));
   intro OU n_;
   clear H c_p c_d c_l c_r c_a z_a c_y z_y c_n z_n c_s;
   have H := n_;
   clear n_;
   have c_p := H.out.cell (g := gp) aQ;
   have c_d := H.out.cell (g := gd) mem1;
   have c_l := H.out.cell (g := gl) mem2;
   have c_r := H.out.cell (g := gr) mem3;
   have c_a := H.out.cell (g := ga) dM;
   have z_a := H.out.frozen (g := ga) dM;
   have c_y := H.out.cell (g := gy) eF;
   have z_y := H.out.frozen (g := gy) eF;
   have c_n := H.out.cell (g := gn) rP;
   have z_n := H.out.frozen (g := gn) rP;
   have c_s := H.out.cell (g := gs) sF)
 |((with_reducible refine aX (t := 34) (p := 3) rfl ?_);
   refine bM (rs1 := [box gp [.pointer (some ⟨gd, 0, none⟩)] 112, box gd [.slice (some ⟨gl, 0, none⟩) 1 1, .bool false] 118, box gl [.pointer (some ⟨gr, 0, none⟩), .int .i64 0] 115, box gr [.int .u8 0, .string ⟨#[]⟩, .slice none 0 0, .slice none 0 0] 50, box ga [.int .i64 0] 3, box gy [.int .i64 0] 34, box gn [.int .u8 0, .string ⟨#[]⟩, .slice none 0 0, .slice none 0 0] 50, box gs [.string ⟨#[]⟩] 9, thing D (.deferred (some []))]) rfl (t := 34) (p := 3) rfl rfl ?hr (H1 := (Sep.iJ H.out 0 (.int .i64 0) rfl)) ?_;
   (case hr => first | (go_simp; done) | (go_simp; rfl));
   intro FP n_;
   clear H c_p c_d c_l c_r c_a z_a c_y z_y c_n z_n c_s;
   have H := n_;
   clear n_;
   have c_p := H.out.cell (g := gp) aQ;
   have c_d := H.out.cell (g := gd) mem1;
   have c_l := H.out.cell (g := gl) mem2;
   have c_r := H.out.cell (g := gr) mem3;
   have c_a := H.out.cell (g := ga) dM;
   have z_a := H.out.frozen (g := ga) dM;
   have c_y := H.out.cell (g := gy) eF;
   have z_y := H.out.frozen (g := gy) eF;
   have c_n := H.out.cell (g := gn) rP;
   have z_n := H.out.frozen (g := gn) rP;
   have c_s := H.out.cell (g := gs) sF)
 |((with_reducible refine aX (t := 3) (p := 4) rfl ?_);
   refine bM (rs1 := [box gp [.pointer (some ⟨gd, 0, none⟩)] 112, box gd [.slice (some ⟨gl, 0, none⟩) 1 1, .bool false] 118, box gl [.pointer (some ⟨gr, 0, none⟩), .int .i64 0] 115, box gr [.int .u8 0, .string ⟨#[]⟩, .slice none 0 0, .slice none 0 0] 50, box ga [.int .i64 0] 3, box gy [.int .i64 0] 34, box gn [.int .u8 0, .string ⟨#[]⟩, .slice none 0 0, .slice none 0 0] 50, box gs [.string ⟨#[]⟩] 9, thing D (.deferred (some []))]) rfl (t := 3) (p := 4) rfl rfl ?hr (H1 := (Sep.kM H.out 0 (.int .i64 0) rfl)) ?_;
   (case hr => first | (go_simp; done) | (go_simp; rfl));
   intro SX n_;
   clear H c_p c_d c_l c_r c_a z_a c_y z_y c_n z_n c_s;
   have H := n_;
   clear n_;
   have c_p := H.out.cell (g := gp) aQ;
   have c_d := H.out.cell (g := gd) mem1;
   have c_l := H.out.cell (g := gl) mem2;
   have c_r := H.out.cell (g := gr) mem3;
   have c_a := H.out.cell (g := ga) dM;
   have z_a := H.out.frozen (g := ga) dM;
   have c_y := H.out.cell (g := gy) eF;
   have z_y := H.out.frozen (g := gy) eF;
   have c_n := H.out.cell (g := gn) rP;
   have z_n := H.out.frozen (g := gn) rP;
   have c_s := H.out.cell (g := gs) sF)
 |fail)
  refine ⟨by simp, .inl ⟨D, _, rfl, run_takeDeferred (H.out.EX (r := D) (o := .deferred (some [])) UY), ?_⟩⟩
  have H9 := (Sep.putObj (pre := []) (Sep.qd8 H.out) (.deferred none)).drop
  refine ⟨by simp, .inr ⟨fun h => (by cases h), .func 64, _, 64, _, rfl, by simp [invoke, go_sem], fun _ _ => trivial, (V8 gn gy _).mono ?_⟩⟩
  rintro e u' w' ⟨rfl, rfl, rfl⟩
  simp only [settle]
  exact ⟨_, TF (fn := Tryz.f24) rfl _ _ gn 50 _ _ _ gy ga _ _ rfl (H9.lD (g := gn) rP) Tryz.underlying50 rfl qex rfl (AY (H9.cell (g := gy) eF)) rfl (qfk (H9.cell (g := ga) dM)), ⟨_, rfl⟩, H9.below⟩
def tV.f (l0 : List (S41)) : Option (List (S41)) := if l0.length < 4398046511104 then some l0 else none
set_option maxHeartbeats 1600000 in
theorem tV.calls (A0 : Option Addr) (c0 : Nat) (l0 : List (S41)) (r : List (S41)) (w : World) (hr0 : Kd.C k41 w A0 l0.length l0) (hc0 : l0.length ≤ c0) (h : tV.f l0 = some r) :
  Calls Tryz.prog 100 #[.slice A0 l0.length c0] w fun e w' => ∃ v0_ : Value, e = .returned v0_ ∧ Kd.R k41 41 w' w.heap.size (fun _ => True) v0_ r ∧ Below w.heap.size w w' := by
 unfold tV.f at h
 split at h
 case isFalse => cases h
 rename_i hn
 have HE := aC.mk (Option.some.inj h)
 clear h
 have HR := aC.mk hr0
 clear hr0
 have hnil : ∀ (a : Option Addr) (n c : Nat) (w : World), (binOp .eql 31 (.slice a n c) (.slice none 0 0)).run Tryz.prog w = .ok (.bool a.isNone) w := fun a n c w => by
  simp only [binOp]
  simp [Op.equal, Op.maxDepth, Lib.run_equalIn_slice_nil w 9999 31 41 a n c 0 0 Tryz.underlying31]
 cases A0 with
 | none =>
  have hl : l0 = [] := by
   cases l0 with
   | nil => rfl
   | cons x s => obtain ⟨ad, h, _⟩ := HR.out.2.2 (by simp); cases h
  go_enter Tryz.func100, Tryz.ntmps100
  go_wp2
  go_ret
  exact ⟨_, rfl, by rw [← HE.out, hl]; exact Kd.xI _ _ _ _ _, Below.refl _ _⟩
 | some ad =>
  go_enter Tryz.func100, Tryz.ntmps100
  go_wp2_with (first
 |((with_reducible refine aV (N := 5) rfl ?_);
   refine Kd.qdE k41 _ 41 ?hg (N := 5) ?hd (xs := ([] : List (S41))) (inner := []) (ok := fun _ => True) (okp := fun _ => True) ?hr ?hp (fun _ hk => hk) trivial (Below.refl _ _) (Nat.le_refl _) (by simp) ?_;
   (case hd => rfl); (case hg => rfl); (case hr => first | (go_simp; done) | (go_simp; rfl)); (case hp => exact (fP.none _ _));
   intro v5 w5 ho hb hg_ qbq; clear hg_ qbq; have HO := aC.mk ho; have HB := aC.mk hb; clear ho hb)
 |((with_reducible refine iF (b := .append) (xs := #[.tmp 5, .tmp 6]) rfl ?_); at_builtin;
   refine Kd.uS k41 (w0 := w) w.heap.size rfl (.tmp 5) (.tmp 6) 31 41 (.agg #[(.int .u64 0), (.string ⟨#[]⟩), (.bool false)]) 32 rfl Tryz.underlying31 OD rfl (by decide) (by omega) v5 [] l0 _ _ _ (fun _ => True) (fun _ => False) rfl rfl ?aO ?aR (fun _ _ h => h) (fun _ h => h.elim) ?aF ?aB ?aS ?aL ?_;
   (case aR => exact Kd.fG HR.out HB.out); (case aB => exact HB.out); (case aF => exact fun _ _ => trivial); (case aO => exact HO.out); (case aS => exact HB.out.size); (case aL => simp only [List.length_nil]; omega);
   intro v7 w9 ho hb hg hat; clear hg hat; have HO2 := aC.mk ho; have HB2 := aC.mk hb; clear ho hb))
  go_ret
  exact ⟨_, rfl, by rw [← HE.out]; exact HO2.out, HB2.out⟩
theorem qbY (A : Option Addr) (c : Nat) (l : List S41) (w : World) (hr : Kd.C k41 w A l.length l) (hc : l.length ≤ c) (hl : l.length ≤ 1024) :
  Calls Tryz.prog 100 #[.slice A l.length c] w fun e w' => ∃ A' c', e = .returned (.slice A' l.length c') ∧ aC (Sep w w' [uG A' c' l]) := by
 refine (tV.calls A c l l w hr hc (by rw [tV.f, if_pos (by omega)])).mono ?_
 rintro e w' ⟨v, rfl, ho, hb⟩
 obtain ⟨A1, c1, rfl⟩ := Kd.dW ho
 exact ⟨A1, c1, rfl, ⟨(Sep.start w).jR hb ho yK⟩⟩
theorem qbZ (A : Option Addr) (c : Nat) (l : List S67) (w : World) (hr : Kd.C k67 w A l.length l) (hc : l.length ≤ c) (hl : l.length ≤ 64) :
  Calls Tryz.prog 63 #[.slice A l.length c] w fun e w' => ∃ A' c', e = .returned (.slice A' l.length c') ∧ aC (Sep w w' [oO A' c' l]) := by
 refine (pW.calls A c l l w hr hc (by rw [pW.f, if_pos (by omega)])).mono ?_
 rintro e w' ⟨v, rfl, ho, hb⟩
 obtain ⟨A1, c1, rfl⟩ := Kd.dW ho
 exact ⟨A1, c1, rfl, ⟨(Sep.start w).jR hb ho oN⟩⟩
end Go.Proofs.U
namespace Go.Proofs.UE
open Go.Proofs.U Go.RowKit Go.Proofs.aA.aK Go.Proofs.aA.aW Go.Proofs.aA.aZ Go.Proofs.Sp Go.Proofs.dZ
def cells3 (x : S41) : List Value := [.int .u64 x.f0, .string x.f1, .bool x.f2]
def cellsOf (l : List S41) : List Value := l.flatMap cells3
theorem dB (x : S41) (l : List S41) : cellsOf (x :: l) = .int .u64 x.f0 :: .string x.f1 :: .bool x.f2 :: cellsOf l := rfl
theorem pX (a b : List S41) : cellsOf (a ++ b) = cellsOf a ++ cellsOf b := by simp [cellsOf]
theorem cellsOf_length : ∀ l : List S41, (cellsOf l).length = l.length * 3
 | [] => rfl
 | x :: l => by rw [dB]; simp only [List.length_cons]; rw [cellsOf_length l]; omega
theorem jY : ∀ (l : List S41) (i : Nat), cellsOf (l.take i) = (cellsOf l).take (i * 3)
 | [], i => by simp [cellsOf]
 | x :: l, 0 => by simp [cellsOf]
 | x :: l, i + 1 => by
  rw [List.take_succ_cons, dB, dB, jY l i, show (i + 1) * 3 = i * 3 + 1 + 1 + 1 by omega]
  simp only [List.take_succ_cons]
theorem kW : ∀ (l : List S41) (i : Nat), cellsOf (l.drop i) = (cellsOf l).drop (i * 3)
 | [], i => by simp [cellsOf]
 | x :: l, 0 => by simp
 | x :: l, i + 1 => by
  rw [List.drop_succ_cons, dB, kW l i, show (i + 1) * 3 = i * 3 + 1 + 1 + 1 by omega]
  simp only [List.drop_succ_cons]
theorem jZ : ∀ (l : List S41) (i : Nat) (x : S41) (u : ByteArray), l[i]? = some x → (cellsOf l).set (i * 3 + 1) (.string u) = cellsOf (l.set i ⟨x.f0, u, x.f2⟩)
 | [], i, x, u, h => by simp at h
 | y :: l, 0, x, u, h => by
  obtain rfl : y = x := by simpa using h
  simp [dB]
 | y :: l, i + 1, x, u, h => by
  show _ = cellsOf (y :: l.set i _)
  rw [dB, dB, ← jZ l i x u (by simpa using h), show (i + 1) * 3 + 1 = i * 3 + 1 + 1 + 1 + 1 by omega]
  simp only [zS]
theorem kC : ∀ (l : List S41) (i : Nat) (x : S41) (u : Bool), l[i]? = some x → (cellsOf l).set (i * 3 + 2) (.bool u) = cellsOf (l.set i ⟨x.f0, x.f1, u⟩)
 | [], i, x, u, h => by simp at h
 | y :: l, 0, x, u, h => by
  obtain rfl : y = x := by simpa using h
  simp [dB]
 | y :: l, i + 1, x, u, h => by
  show _ = cellsOf (y :: l.set i _)
  rw [dB, dB, ← kC l i x u (by simpa using h), show (i + 1) * 3 + 2 = i * 3 + 2 + 1 + 1 + 1 by omega]
  simp only [zS]
theorem jF : ∀ (l : List S41) (i : Nat) (x : S41), l[i]? = some x → (cellsOf l)[i * 3]? = some (.int .u64 x.f0) ∧ (cellsOf l)[i * 3 + 1]? = some (.string x.f1) ∧ (cellsOf l)[i * 3 + 2]? = some (.bool x.f2)
 | [], i, x, h => by simp at h
 | y :: l, 0, x, h => by
  obtain rfl : y = x := by simpa using h
  simp [dB]
 | y :: l, i + 1, x, h => by
  have ih := jF l i x (by simpa using h)
  rw [dB, show (i + 1) * 3 = i * 3 + 1 + 1 + 1 by omega]
  simp only [List.getElem?_cons_succ]
  exact ih
theorem qW (l : List S41) : ∀ u ∈ cellsOf l, u.oneCell' = true := by
 intro u hu
 simp only [cellsOf, List.mem_flatMap, cells3] at hu
 obtain ⟨x, _, hx⟩ := hu
 simp only [List.mem_cons, List.not_mem_nil, or_false] at hx
 rcases hx with rfl | rfl | rfl <;> rfl
theorem add_plain' (g k j : Nat) : (⟨g, k, none⟩ : Addr).add j = ⟨g, k + j, none⟩ := by unfold Addr.add; split <;> simp_all
theorem AB (w : World) (base : Nat) (ok : Nat → Prop) : ∀ l : List S41, fP (k41.M w base ok) 3 l (cellsOf l) := by
 intro l
 refine ⟨cellsOf_length l, fun j p hj => ?_⟩
 rw [← kW, show ((3 : Nat)) = 1 * 3 from rfl, ← jY]
 have hlt : j < l.length := (List.getElem?_eq_some_iff.1 hj).1
 have e : (l.drop j).take 1 = [p] := by
  rw [List.drop_eq_getElem_cons hlt]
  have := (List.getElem?_eq_some_iff.1 hj).2
  simp [this]
 rw [e]
 exact I8 w base ok p
theorem AL {w : World} {base : Nat} {ok : Nat → Prop} : ∀ {l : List S41} {cs : List Value}, fP (k41.M w base ok) 3 l cs → cs = cellsOf l := by
 intro l
 induction l with
 | nil =>
  intro cs h
  have := h.1
  simp at this
  rw [this]; rfl
 | cons x l ih =>
  intro cs h
  have h0 := MN (h.2 0 x rfl)
  simp only [Nat.zero_mul, List.drop_zero] at h0
  have hl := h.1
  simp only [List.length_cons] at hl
  have h1 : fP (k41.M w base ok) 3 l (cs.drop 3) := by
   refine ⟨by rw [List.length_drop]; omega, fun j p hj => ?_⟩
   have := h.2 (j + 1) p (by simpa using hj)
   rw [List.drop_drop, show 3 + j * 3 = (j + 1) * 3 by omega]
   exact this
  rw [dB, ← ih h1]
  have e : cs = cs.take 3 ++ cs.drop 3 := (List.take_append_drop 3 cs).symm
  rw [h0] at e
  exact e
theorem qU {w : World} {base : Nat} {ok : Nat → Prop} {v : Value} {l : List S41} (h : Kd.R k41 41 w base ok v l) : w.ownsRow base 41 3 v l.length (cellsOf l) := by
 obtain ⟨_, inner, ho, hr⟩ := h
 rw [← AL hr]
 exact ho
theorem oI {w : World} {base : Nat} {v : Value} {l : List S41} (h : w.ownsRow base 41 3 v l.length (cellsOf l)) : Kd.R k41 41 w base (fun _ => True) v l :=
 ⟨fun _ _ => trivial, cellsOf l, h, AB _ _ _ l⟩
theorem lS {w : World} {base : Nat} {ok : Nat → Prop} {A : Option Addr} {n c : Nat} {l : List S41} (h : Kd.R k41 41 w base ok (.slice A n c) l) (hne : 0 < l.length) :
  ∃ g cur, A = some ⟨g, 0, none⟩ ∧ n = l.length ∧ base ≤ g ∧ w.heap[g]? = some (.cells cur 41 (0, 0)) ∧ l.length ≤ c ∧ c ≤ maxLen ∧ cur.size = c * 3 ∧ cur.toList.take (l.length * 3) = cellsOf l := by
 obtain ⟨_, h2 | ⟨g, cap, cur, he, hb, hh, h3, h4, h5, h6⟩⟩ := qU h
 ·omega
 ·injection he with e1 e2 e3
  subst e1 e2 e3
  exact ⟨g, cur, rfl, rfl, hb, hh, h3, h4, h5, h6⟩
theorem kF {w : World} {g : Nat} {cur : Array Value} {l : List S41} {j : Nat} {u : Value} (hh : w.heap[g]? = some (.cells cur 41 (0, 0))) (h6 : cur.toList.take (l.length * 3) = cellsOf l) (hj : (cellsOf l)[j]? = some u) :
  w.cell? ⟨g, j, none⟩ = some u := by
 have hlt : j < l.length * 3 := by
  have := (List.getElem?_eq_some_iff.1 hj).1
  rwa [cellsOf_length] at this
 rw [aH hh]
 rw [← h6, List.getElem?_take_of_lt hlt] at hj
 rw [← hj]
 simp
theorem zL {w : World} {base g c j : Nat} {l l' : List S41} {u : Value} (h : Kd.R k41 41 w base (fun _ => True) (.slice (some ⟨g, 0, none⟩) l.length c) l) (hl : l'.length = l.length) (he : (cellsOf l).set j u = cellsOf l') (hj : j < l.length * 3) :
  Kd.R k41 41 (w.setCell ⟨g, j, none⟩ u) base (fun _ => True) (.slice (some ⟨g, 0, none⟩) l'.length c) l' := by
 obtain ⟨g', cur, hg, _, hb, hh, h3, h4, h5, h6⟩ := lS h (by omega)
 injection hg with hg
 injection hg with hg
 subst hg
 refine oI ⟨by rw [cellsOf_length], .inr ⟨g, c, cur.setIfInBounds j u, rfl, hb, C9 hh j u, by omega, h4, by simpa using h5, ?_⟩⟩
 rw [← he, ← h6, hl]
 simp [List.take_set]
theorem QC : ∃ i0, Tryz.prog.info? 41 = some i0 ∧ i0.zero = some (.agg #[(.int .u64 0), (.string ⟨#[]⟩), (.bool false)]) ∧ i0.size = 3 ∧ i0.bytes = 32 := by
 obtain ⟨i0, hi, he⟩ := Option.map_eq_some_iff.1 OD
 simp only [Prod.mk.injEq] at he
 exact ⟨i0, hi, he⟩
theorem qey (w : World) : (zeroValue 41).run Tryz.prog w = .ok (.agg #[.int .u64 0, .string ⟨#[]⟩, .bool false]) w := by kernel_rfl
theorem TG (w : World) (ty g o c : Nat) (hc : ∀ j, j < 3 → (w.cell? ⟨g, o + j, none⟩).isSome = true) (hf : ∀ j, j < 3 → w.frozen? ⟨g, o + j, none⟩ = false) :
  (Builtin.clear_ #[31] ty #[.slice (some ⟨g, o, none⟩) 1 c]).run Tryz.prog w = .ok (.tuple #[]) (w.setCells g o [.int .u64 0, .string ⟨#[]⟩, .bool false]) := by
 have hzc : (Builtin.zeroCells (Value.agg #[.int .u64 0, .string ⟨#[]⟩, .bool false]).cells 1).toList = [.int .u64 0, .string ⟨#[]⟩, .bool false] := by kernel_rfl
 have hst := run_storeCells_cells (P := Tryz.prog) g o [.int .u64 0, .string ⟨#[]⟩, .bool false] 0 w (by simpa using hc) (by simpa using hf) (by intro v hv'; simp at hv'; rcases hv' with rfl | rfl | rfl <;> rfl)
 simp only [Nat.add_zero] at hst
 simp [Builtin.clear_, run_underlying Tryz.underlying31, qey, hzc, hst]
set_option maxHeartbeats 8000000 in
theorem AO (w : World) (base : Nat) (l : List S41) (g c : Nat) (i m : Nat) (hl : l.length = i + m + 1) (hn : l.length ≤ 1024) (ho : Kd.R k41 41 w base (fun _ => True) (.slice (some ⟨g, 0, none⟩) l.length c) l) :
  Calls Tryz.prog 62 #[.slice (some ⟨g, 0, none⟩) (i + m + 1) c, .int .i64 (i : Int), .int .i64 ((i : Int) + 1)] w fun e w4 => e = .returned (.slice (some ⟨g, 0, none⟩) (i + m) c) ∧
   Kd.R k41 41 w4 base (fun _ => True) (.slice (some ⟨g, 0, none⟩) (i + m) c) (l.take i ++ l.drop (i + 1)) ∧ Below base w w4 ∧ ∀ k, k ≠ g → w4.heap[k]? = w.heap[k]? := by
 obtain ⟨g', cur, e, _, hg, hh, h3, h4, h5, h6⟩ := lS ho (by omega)
 injection e with e
 injection e with e
 subst e
 obtain ⟨i0, hi0, hz0, hz1, hz2⟩ := QC
 have hic : i + m + 1 ≤ c := by omega
 have him : i + m + 1 ≤ 1024 := by omega
 have hi7 : i ≤ c := by omega
 have hcm : c ≤ 9223372036854775807 := by unfold maxLen at h4; omega
 have hne : ((i : Int) == (i : Int) + 1) = false := by simp; omega
 have HL := aC.mk hl
 have HI0 := aC.mk hi0
 have HZ1 := aC.mk hz1
 have HH := aC.mk hh
 have H6 := aC.mk h6
 have HG := aC.mk hg
 have H5 := aC.mk h5
 have hnews : aC ((cellsOf (l.drop (i + 1))).length = m * 3) := ⟨by rw [cellsOf_length, List.length_drop]; omega⟩
 have hspare : aC (∀ j, j < (cellsOf (l.drop (i + 1))).length → (w.drew.cell? ⟨g, 0 + i * 3 + j, none⟩).isSome = true ∧ w.drew.frozen? ⟨g, 0 + i * 3 + j, none⟩ = false) := ⟨fun j hj => by
  rw [hnews.out] at hj
  refine ⟨?_, aG (bQ hh) _⟩
  rw [aH (bQ hh), Array.getElem?_eq_getElem (by omega)]
  rfl⟩
 have hcell : aC (∀ j u, (cellsOf (l.drop (i + 1)))[j]? = some u → w.drew.cell? ⟨g, (i + 1) * 3 + j, none⟩ = some u) := ⟨fun j u hu => by
  rw [kW, List.getElem?_drop] at hu
  exact kF (bQ hh) h6 hu⟩
 clear hl hi0 hz0 hz1 hz2 hh h6 hg h5 h4 h3 ho hn
 have hend : ∀ W : World, W = (w.drew.setCells g (0 + i * 3) (cellsOf (l.drop (i + 1)))) → aC ((∀ j, j < 3 → (W.cell? ⟨g, (i + m) * 3 + j, none⟩).isSome = true) ∧ (∀ j, j < 3 → W.frozen? ⟨g, (i + m) * 3 + j, none⟩ = false) ∧
   Kd.R k41 41 (W.setCells g ((i + m) * 3) [.int .u64 0, .string ⟨#[]⟩, .bool false]) base (fun _ => True) (.slice (some ⟨g, 0, none⟩) (i + m) c) (l.take i ++ l.drop (i + 1)) ∧ Below base w (W.setCells g ((i + m) * 3) [.int .u64 0, .string ⟨#[]⟩, .bool false]) ∧
   ∀ k, k ≠ g → (W.setCells g ((i + m) * 3) [.int .u64 0, .string ⟨#[]⟩, .bool false]).heap[k]? = w.heap[k]?) := by
  rintro W rfl
  obtain ⟨qeg, hc1, hs1, hl1⟩ := kT g 41 (cellsOf (l.drop (i + 1))) (0 + i * 3) w.drew cur (bQ HH.out)
  obtain ⟨qeh, hc2, hs2, hl2⟩ := kT g 41 [.int .u64 0, .string ⟨#[]⟩, .bool false] ((i + m) * 3) _ qeg hc1
  have hsz : cur.size = c * 3 := H5.out
  have hct : cur.toList.length = c * 3 := by simpa using hsz
  refine ⟨fun j hj => ?_, fun j hj => aG hc1 _, ?_, ?_, fun k hk => ?_⟩
  ·rw [aH hc1, Array.getElem?_eq_getElem (by omega)]
   rfl
  ·have hlen : (l.take i ++ l.drop (i + 1)).length = i + m := by rw [List.length_append, List.length_take, List.length_drop, HL.out]; omega
   refine oI ⟨by rw [cellsOf_length], .inr ⟨g, c, qeh, by rw [hlen], HG.out, hc2, by omega, ?_, by omega, ?_⟩⟩
   ·unfold maxLen; omega
   ·rw [hl2, hl1, hlen, wI _ _ _ (by
     rw [wI _ _ _ (by rw [hnews.out, hct]; omega)]
     simp [hct, hnews.out]; omega)]
    rw [wI _ _ _ (by rw [hnews.out, hct]; omega), pX, jY, hnews.out, Nat.zero_add]
    have h6 := H6.out
    have e1 : cur.toList.take (i * 3) = (cellsOf l).take (i * 3) := by rw [← h6, List.take_take]; congr 1; rw [HL.out]; omega
    have e2 : (cur.toList.take (i * 3) ++ cellsOf (l.drop (i + 1))).length = (i + m) * 3 := by rw [List.length_append, List.length_take, hnews.out, hct]; omega
    rw [List.append_assoc, List.take_append_of_le_length (by rw [List.length_take, List.length_append, List.length_append, List.length_take, hnews.out, hct, List.length_drop, hct]; omega)]
    rw [List.take_take, Nat.min_self, List.take_append_of_le_length (by omega), ← e2, List.take_length, e1]
  ·exact lU HG.out _ _ _ (lU HG.out _ _ _ (fK (Below.refl base w)))
  ·rw [lT g k hk, lT g k hk]
   rfl
 have AP := aC.mk hend
 clear hend
 have OL : ∀ (ty c' : Nat) (W : World), W = (w.drew.setCells g (0 + i * 3) (cellsOf (l.drop (i + 1)))) → (Builtin.clear_ #[31] ty #[.slice (some ⟨g, (i + m) * 3, none⟩) 1 c']).run Tryz.prog W = .ok (.tuple #[]) (W.setCells g ((i + m) * 3) [.int .u64 0, .string ⟨#[]⟩, .bool false]) := fun ty c' W hW =>
  TG W ty g ((i + m) * 3) c' ((AP.out W hW).out.1) ((AP.out W hW).out.2.1)
 have J4 := aC.mk OL
 clear OL
 by_cases hci : c = i + 1
 ·have hm0 : m = 0 := by omega
  subst hm0
  subst hci
  simp only [Nat.add_zero] at AP J4 HL hic him ⊢
  have z1 : (i : Int) ≤ (i : Int) + 1 := by omega
  have z2 : (0 : Int) ≤ (i : Int) + 1 := by omega
  go_enter Tryz.func62, Tryz.ntmps62
  go_wp2
  refine iI (n := 8) (S := fun w' => True) (ds := []) #[false, false, false, false, false, false, false, false] (by kernel_rfl) rfl rfl trivial (fun hHeld => ?_)
  refine puS (i := 0) (N := some 20) (v := ?_) (a' := ?_) rfl rfl (by kernel_rfl) (fun _ _ _ h => h) (Or.inl ⟨by rfl, ?_⟩) ?_ ?_
  rotate_left
  ·intro w'
   go_simp
   with_reducible rfl
  rotate_left
  ·simp only [Act.put, zA, zZ, zS, aI, aJ]
   rfl
  refine puS (i := 1) (N := some 21) (v := ?_) (a' := ?_) rfl rfl (by kernel_rfl) (fun _ _ _ h => h) (Or.inl ⟨by rfl, ?_⟩) ?_ ?_
  rotate_left
  ·intro w'
   go_simp
   with_reducible rfl
  rotate_left
  ·simp only [Act.put, zA, zZ, zS, aI, aJ]
   rfl
  refine puS (i := 2) (N := some 22) (v := ?_) (a' := ?_) rfl rfl (by kernel_rfl) (fun _ _ _ h => h) (Or.inl ⟨by rfl, ?_⟩) ?_ ?_
  rotate_left
  ·intro w'
   go_simp
   with_reducible rfl
  rotate_left
  ·simp only [Act.put, zA, zZ, zS, aI, aJ]
   rfl
  refine puS (i := 3) (N := some 23) (v := ?_) (a' := ?_) rfl rfl (by kernel_rfl) (fun _ _ _ h => h) (Or.inl ⟨by rfl, ?_⟩) ?_ ?_
  rotate_left
  ·intro w'
   go_simp
   with_reducible rfl
  rotate_left
  ·simp only [Act.put, zA, zZ, zS, aI, aJ]
   rfl
  refine puS (i := 4) (N := some 24) (v := ?_) (a' := ?_) rfl rfl (by kernel_rfl) (fun _ _ _ h => h) (Or.inl ⟨by rfl, ?_⟩) ?_ ?_
  rotate_left
  ·intro w'
   go_simp
   with_reducible rfl
  rotate_left
  ·simp only [Act.put, zA, zZ, zS, aI, aJ]
   rfl
  refine puS (i := 5) (N := some 25) (v := ?_) (a' := ?_) rfl rfl (by kernel_rfl) (fun _ _ _ h => h) (Or.inl ⟨by rfl, ?_⟩) ?_ ?_
  rotate_left
  ·intro w'
   go_simp
   with_reducible rfl
  rotate_left
  ·simp only [Act.put, zA, zZ, zS, aI, aJ]
   rfl
  refine onS (i := 6) (N := some 26) rfl rfl (by kernel_rfl) (by decide) (fun K hK => ?_)
  refine step_append_room rfl (.tmp 22) (.tmp 25) 31 rfl 41 i0 3 Tryz.underlying31 HI0.out HZ1.out g 0 i (i + 1) rfl ⟨g, 0, none⟩ 0 0 (cellsOf (l.drop (i + 1))) rfl hnews.out ?ncz (qW _) (by omega) hspare.out ?_
  case ncz => intro j u hu; exact absurd (List.getElem?_eq_some_iff.1 hu).1 (by rw [hnews.out]; omega)
  refine hK.out _ _ trivial (fun hHeld => ?_)
  clear hK K
  refine fH (a' := ?_) ?_ ?_
  rotate_left
  ·show Act.put _ (some 26) _ = _
   simp only [Act.put, zA, zZ, zS, aI, aJ]
   rfl
  refine puS (i := 7) (N := some 0) (v := ?_) (a' := ?_) rfl rfl (by kernel_rfl) (fun _ _ _ h => h) (Or.inl ⟨by rfl, ?_⟩) ?_ ?_
  rotate_left
  ·intro w'
   go_simp
   with_reducible rfl
  rotate_left
  ·simp only [Act.put, zA, zZ, zS, aI, aJ]
   rfl
  refine jT (by kernel_rfl) ?_
  obtain ⟨W, hW⟩ : ∃ W, W = (w.drew.setCells g (0 + i * 3) (cellsOf (l.drop (i + 1)))) := ⟨_, rfl⟩
  rw [← hW]
  have OL := fun ty c' => J4.out ty c' W hW
  have HW := AP.out W hW
  clear hW AP J4 hHeld
  go_wp2
  go_ret
  exact ⟨rfl, HW.out.2.2.1, HW.out.2.2.2.1, HW.out.2.2.2.2⟩
 ·have z2 : (0 : Int) ≤ (i : Int) + 1 := by omega
  have z3 : (i : Int) + 1 ≤ (i : Int) + (m : Int) + 1 := by omega
  have z4 : i + 1 ≤ c := by omega
  have z5 : (i : Int) + 1 ≤ (c : Int) := by omega
  go_enter Tryz.func62, Tryz.ntmps62
  go_wp2
  refine iI (n := 8) (S := fun w' => True) (ds := []) #[false, false, false, false, false, false, false, false] (by kernel_rfl) rfl rfl trivial (fun hHeld => ?_)
  refine puS (i := 0) (N := some 20) (v := ?_) (a' := ?_) rfl rfl (by kernel_rfl) (fun _ _ _ h => h) (Or.inl ⟨by rfl, ?_⟩) ?_ ?_
  rotate_left
  ·intro w'
   go_simp
   with_reducible rfl
  rotate_left
  ·simp only [Act.put, zA, zZ, zS, aI, aJ]
   rfl
  refine puS (i := 1) (N := some 21) (v := ?_) (a' := ?_) rfl rfl (by kernel_rfl) (fun _ _ _ h => h) (Or.inl ⟨by rfl, ?_⟩) ?_ ?_
  rotate_left
  ·intro w'
   go_simp
   with_reducible rfl
  rotate_left
  ·simp only [Act.put, zA, zZ, zS, aI, aJ]
   rfl
  refine puS (i := 2) (N := some 22) (v := ?_) (a' := ?_) rfl rfl (by kernel_rfl) (fun _ _ _ h => h) (Or.inl ⟨by rfl, ?_⟩) ?_ ?_
  rotate_left
  ·intro w'
   go_simp
   with_reducible rfl
  rotate_left
  ·simp only [Act.put, zA, zZ, zS, aI, aJ]
   rfl
  refine puS (i := 3) (N := some 23) (v := ?_) (a' := ?_) rfl rfl (by kernel_rfl) (fun _ _ _ h => h) (Or.inl ⟨by rfl, ?_⟩) ?_ ?_
  rotate_left
  ·intro w'
   go_simp
   with_reducible rfl
  rotate_left
  ·simp only [Act.put, zA, zZ, zS, aI, aJ]
   rfl
  refine puS (i := 4) (N := some 24) (v := ?_) (a' := ?_) rfl rfl (by kernel_rfl) (fun _ _ _ h => h) (Or.inl ⟨by rfl, ?_⟩) ?_ ?_
  rotate_left
  ·intro w'
   go_simp
   with_reducible rfl
  rotate_left
  ·simp only [Act.put, zA, zZ, zS, aI, aJ]
   rfl
  refine puS (i := 5) (N := some 25) (v := ?_) (a' := ?_) rfl rfl (by kernel_rfl) (fun _ _ _ h => h) (Or.inl ⟨by rfl, ?_⟩) ?_ ?_
  rotate_left
  ·intro w'
   go_simp
   with_reducible rfl
  rotate_left
  ·simp only [Act.put, zA, zZ, zS, aI, aJ]
   rfl
  refine onS (i := 6) (N := some 26) rfl rfl (by kernel_rfl) (by decide) (fun K hK => ?_)
  refine step_append_room rfl (.tmp 22) (.tmp 25) 31 rfl 41 i0 3 Tryz.underlying31 HI0.out HZ1.out g 0 i c rfl ⟨g, (i + 1) * 3, none⟩ m (c - (i + 1)) (cellsOf (l.drop (i + 1))) rfl hnews.out ?ncg (qW _) (by omega) hspare.out ?_
  case ncg => intro j u hu; rw [add_plain']; exact hcell.out j u hu
  refine hK.out _ _ trivial (fun hHeld => ?_)
  clear hK K
  refine fH (a' := ?_) ?_ ?_
  rotate_left
  ·show Act.put _ (some 26) _ = _
   simp only [Act.put, zA, zZ, zS, aI, aJ]
   rfl
  refine puS (i := 7) (N := some 0) (v := ?_) (a' := ?_) rfl rfl (by kernel_rfl) (fun _ _ _ h => h) (Or.inl ⟨by rfl, ?_⟩) ?_ ?_
  rotate_left
  ·intro w'
   go_simp
   with_reducible rfl
  rotate_left
  ·simp only [Act.put, zA, zZ, zS, aI, aJ]
   rfl
  refine jT (by kernel_rfl) ?_
  obtain ⟨W, hW⟩ : ∃ W, W = (w.drew.setCells g (0 + i * 3) (cellsOf (l.drop (i + 1)))) := ⟨_, rfl⟩
  rw [← hW]
  have OL := fun ty c' => J4.out ty c' W hW
  have HW := AP.out W hW
  clear hW AP J4 hHeld
  go_wp2
  go_ret
  exact ⟨rfl, HW.out.2.2.1, HW.out.2.2.2.1, HW.out.2.2.2.2⟩
theorem oG {b W : World} {pre post : List Res} {g c j n : Nat} {l l' : List S41} {u : Value} (hn : n = l.length) (H : Sep b W (pre ++ row k41 41 (.slice (some ⟨g, 0, none⟩) n c) l :: post)) (hl : l'.length = l.length) (he : (cellsOf l).set j u = cellsOf l') (hj : j < l.length * 3) :
  Sep b (W.setCell ⟨g, j, none⟩ u) (pre ++ row k41 41 (.slice (some ⟨g, 0, none⟩) n c) l' :: post) := by
 subst hn
 refine H.upd (r' := row k41 41 (.slice (some ⟨g, 0, none⟩) l.length c) l') ((Upd.setCell W ⟨g, j, none⟩ u).mono fun k hk => ?_) ?_ (fun k hk => .inl hk)
 ·show (Value.slice (some ⟨g, 0, none⟩) l.length c).ownBlock = some k
  rw [hk]
  rfl
 ·have hr : Kd.R k41 41 W 0 (fun k => (Value.slice (some ⟨g, 0, none⟩) l.length c).ownBlock = some k) (.slice (some ⟨g, 0, none⟩) l.length c) l := H.all (uG (some ⟨g, 0, none⟩) c l) (by simp)
  have h2 := zL (Kd.rJ hr (fun _ _ => trivial)) hl he hj
  rw [hl] at h2
  exact Kd.JQ yK h2 (fun k hk _ => hk)
theorem sO {b w : World} {rs : List Res} {g c i : Nat} {l : List S41} (hi : i < l.length) (hn : l.length ≤ 1024) (H : aC (Sep b w (uG (some ⟨g, 0, none⟩) c l :: rs))) :
  Calls Tryz.prog 62 #[.slice (some ⟨g, 0, none⟩) l.length c, .int .i64 (i : Int), .int .i64 ((i : Int) + 1)] w fun e w' => e = .returned (.slice (some ⟨g, 0, none⟩) (l.eraseIdx i).length c) ∧ aC (Sep b w' (uG (some ⟨g, 0, none⟩) c (l.eraseIdx i) :: rs)) := by
 have hr : Kd.R k41 41 w 0 (fun k => (Value.slice (some ⟨g, 0, none⟩) l.length c).ownBlock = some k) (.slice (some ⟨g, 0, none⟩) l.length c) l := H.out.all (uG (some ⟨g, 0, none⟩) c l) (by simp)
 obtain ⟨m, hm⟩ : ∃ m, l.length = i + m + 1 := ⟨l.length - i - 1, by omega⟩
 have he : l.eraseIdx i = l.take i ++ l.drop (i + 1) := List.eraseIdx_eq_take_drop_succ l i
 have hlen : (l.take i ++ l.drop (i + 1)).length = i + m := by rw [List.length_append, List.length_take, List.length_drop]; omega
 have h := AO w 0 l g c i m hm hn (Kd.rJ hr (fun _ _ => trivial))
 rw [← hm] at h
 refine h.mono ?_
 rintro e w4 ⟨rfl, h1, h2, h3⟩
 rw [he]
 refine ⟨by rw [hlen], ⟨H.out.qcA (r' := uG (some ⟨g, 0, none⟩) c (l.take i ++ l.drop (i + 1))) ⟨h2.os, h2.tape, h2.output, h2.size, fun k hk hne => h3 k fun e => hne ?_⟩ ?_ (fun k hk => .inl hk)⟩⟩
 ·show (Value.slice (some ⟨g, 0, none⟩) l.length c).ownBlock = some k
  rw [e]
  rfl
 ·have h5 := Kd.JQ yK h1 (ok' := fun k => (Value.slice (some ⟨g, 0, none⟩) (l.take i ++ l.drop (i + 1)).length c).ownBlock = some k) (fun k hk _ => by rw [hlen]; exact hk)
  rw [← hlen] at h5
  exact h5
end Go.Proofs.UE
namespace Go.Proofs.U
open Go.Proofs.UE (oG sO)
open Go.RowKit Go.Proofs.aA.aK Go.Proofs.aA.aW Go.Proofs.aA.aZ Go.Proofs.Sp Go.Proofs.dZ
def oQ (p : S41 → Bool) : List S41 → Option Nat
 | [] => none
 | x :: r => if p x = true then some 0 else (oQ p r).map (· + 1)
def FU (p : S41 → Bool) (l : List S41) : Int := match oQ p l with | some i => (i : Int) | none => -1
theorem yL {p : S41 → Bool} : ∀ {l : List S41} {i : Nat}, oQ p l = some i → ∃ x, l[i]? = some x ∧ p x = true ∧ ∀ j y, j < i → l[j]? = some y → p y = false
 | [], i, h => by cases h
 | x :: r, i, h => by
  rw [oQ] at h
  split at h
  ·rename_i hp
   injection h with h
   subst h
   exact ⟨x, rfl, hp, fun j y hj => by omega⟩
  ·rename_i hp
   cases hr : oQ p r with
   | none => rw [hr] at h; cases h
   | some k =>
    rw [hr] at h
    have h : k + 1 = i := by simpa using h
    subst h
    obtain ⟨y, h1, h2, h3⟩ := yL hr
    refine ⟨y, h1, h2, fun j z hj hz => ?_⟩
    cases j with
    | zero =>
     have : x = z := by simpa using hz
     rw [← this]
     simpa using hp
    | succ j => exact h3 j z (by omega) (by simpa using hz)
theorem X3 {p : S41 → Bool} {l : List S41} {i : Nat} (h : oQ p l = some i) : i < l.length := by
 obtain ⟨x, hx, _⟩ := yL h
 exact (List.getElem?_eq_some_iff.1 hx).1
theorem qig {w : World} {ad : Addr} {n i : Nat} {l : List S41} {x : S41} (h : Kd.C k41 w (some ad) n l) (hx : l[i]? = some x) :
  w.cell? (ad.add (i * 3)) = some (.int .u64 x.f0) ∧ w.cell? ⟨(ad.add (i * 3)).block, (ad.add (i * 3)).off + 1, none⟩ = some (.string x.f1) ∧ w.cell? ⟨(ad.add (i * 3)).block, (ad.add (i * 3)).off + 2, none⟩ = some (.bool x.f2) := by
 have hi := (List.getElem?_eq_some_iff.1 hx).1
 obtain ⟨ad2, c, e, _, hK, hc0⟩ := Kd.GN h z41 (i : Int) (by omega) (by have := h.1; omega)
 injection e with e
 subst e
 have hg : l.getD i z41 = x := by simp [List.getD, hx]
 simp only [Int.toNat_natCast] at hK hc0
 rw [hg] at hK
 have hc : ∀ j u, c[j]? = some u → w.cell? (ad.add (i * 3 + j)) = some u := hc0
 obtain rfl := DK hK
 exact ⟨hc 0 _ rfl, by rw [← lI _ _ 1 (by omega)]; exact hc 1 _ rfl, by rw [← lI _ _ 2 (by omega)]; exact hc 2 _ rfl⟩
theorem qfl {w : World} {A : Option Addr} {n : Nat} {l : List S41} (h : Kd.C k41 w A n l) (hn : 0 < n) : ∃ ad, A = some ad := by
 obtain ⟨ad2, c, e, _⟩ := Kd.GN h z41 0 (by omega) (by omega)
 exact ⟨ad2, e⟩
set_option maxHeartbeats 4000000 in
theorem ND (p : S41 → Bool) (fdo : Nat) (lb : List Value) (B : Option Addr) (d : Nat) (es : List S41) (w : World) (hre : Kd.C k41 w B es.length es) (he : ∀ args w, (callFunc fdo args).run Tryz.prog w = .ok (.enter fdo args) w)
  (hp : ∀ (x : S41) (w' : World), Below w.heap.size w w' → Calls Tryz.prog fdo (.agg #[.int .u64 x.f0, .string x.f1, .bool x.f2] :: lb).toArray w' fun e w'' => e = .returned (.bool (p x)) ∧ Below w'.heap.size w' w'') :
  Calls Tryz.prog 57 #[.slice B es.length d, .func (.func fdo) #[] lb.toArray] w fun e w' => e = .returned (.int .i64 (FU p es)) ∧ Below w.heap.size w w' := by
 have HRe := aC.mk hre
 have HP := aC.mk hp
 have HL : aC (es.length ≤ 9223372036854775807) := ⟨Kd.qbb hre⟩
 clear hre hp
 have HB := aC.mk (Below.refl w.heap.size w)
 go_enter Tryz.func57, Tryz.ntmps57
 go_wp2
 go_loopw [4, 5, 8] (fun v4 v5 v8 wr => ∃ i : Nat, v8 = .int .i64 (i : Int) ∧ i ≤ es.length ∧ aC (oQ p es = (oQ p (es.drop i)).map (· + i)) ∧ aC (Below w.heap.size w wr)) (fun _ _ v8 _ => es.length - (intOf v8).toNat)
 case atStart => exact ⟨0, rfl, Nat.zero_le _, ⟨by simp⟩, HB⟩
 case round =>
  clear HB
  obtain ⟨i, rfl, hi, HI, HB⟩ := hrel
  by_cases hil : i < es.length
  ·obtain ⟨x, hx⟩ : ∃ x, es[i]? = some x := ⟨_, List.getElem?_eq_getElem hil⟩
   have hd : es.drop i = x :: es.drop (i + 1) := by
    rw [List.drop_eq_getElem_cons hil]
    congr 1
    rw [List.getElem?_eq_getElem hil] at hx
    exact Option.some.inj hx
   have HD := aC.mk hd
   obtain ⟨ad, e1⟩ := qfl HRe.out (by omega)
   subst e1
   obtain ⟨q0, q1, q2⟩ := qig (Kd.fG HRe.out HB.out) hx
   have hi0 : (0 : Int) ≤ (i : Int) := by omega
   have hi1 : (i : Int) < (es.length : Int) := by omega
   have hw3 : wrap64 ((i : Int) + 1) = ((i + 1 : Nat) : Int) := by
    have := HL.out
    unfold wrap64
    omega
   clear hd hx
   go_wp2_with fail
   refine ((HP.out x _ HB.out).mono ?_)
   rintro e w5 ⟨rfl, hb⟩
   have n0_ := aC.mk (bD HB.out hb)
   clear HB q0 q1 q2 hb
   have HB := n0_
   clear n0_
   cases hpx : p x
   ·go_wp2_with fail
    try rw [hw3]
    refine ⟨⟨i + 1, rfl, by omega, ⟨?_⟩, HB⟩, by simp [intOf]; omega⟩
    rw [HI.out, HD.out, oQ, if_neg (by rw [hpx]; simp), Option.map_map]
    congr 1
    funext k
    show k + 1 + i = k + (i + 1)
    omega
   ·have hres : FU p es = (i : Int) := by
     rw [FU, HI.out, HD.out, oQ, if_pos hpx]
     simp
    go_wp2_with fail
    go_ret
    exact ⟨by first | rfl | (rw [hres]; rfl), HB.out⟩
  ·have hie : i = es.length := by omega
   subst hie
   have hres : FU p es = -1 := by
    rw [FU, HI.out, List.drop_length]
    rfl
   have hin : ¬ (es.length : Int) < (es.length : Int) := by omega
   go_wp2_with fail
   go_ret
   exact ⟨by first | rfl | (rw [hres]; rfl), HB.out⟩
set_option maxHeartbeats 4000000 in
theorem qez (x : S41) (w : World) : Calls Tryz.prog 58 #[.agg #[.int .u64 x.f0, .string x.f1, .bool x.f2]] w fun e w' => e = .returned (.bool (!x.f2)) ∧ Below w.heap.size w w' := by
 have H := aC.mk (Sep.start w)
 go_enter Tryz.func58, Tryz.ntmps58
 go_wp2_with (first
 |((with_reducible refine aV (N := 1) rfl ?_);
   refine bP rfl H (cs := [.int .u64 x.f0, .string x.f1, .bool x.f2]) (t := 41) ?hr ?_;
   (case hr => first | (go_simp; done) | (go_simp; rfl));
   intro gx wd1 n_;
   simp only [Act.put, zA, zZ, zS];
   clear H;
   have H := n_;
   clear n_;
   have c_x := H.out.cell (g := gx) aQ)
 |fail)
 go_ret
 exact ⟨rfl, H.out.below⟩
set_option maxHeartbeats 4000000 in
theorem qdn (x : S41) (g1 : Nat) (q : Int) (w : World) (hb : w.heap[g1]? = some (.cells #[.int .u64 q] 28 (0, 0))) : Calls Tryz.prog 102 #[.agg #[.int .u64 x.f0, .string x.f1, .bool x.f2], .pointer (some ⟨g1, 0, none⟩)] w fun e w' => e = .returned (.bool (x.f0 == q && x.f2)) ∧ Below w.heap.size w w' := by
 have HQ := aC.mk hb
 clear hb
 have H := aC.mk (Sep.start w)
 go_enter Tryz.func102, Tryz.ntmps102
 by_cases hq : x.f0 = q
 ·
  have hqb : (x.f0 == q) = true := by simpa using hq
  clear hq
  go_wp2_with (first
 |((with_reducible refine aV (N := 2) rfl ?_);
   refine bP rfl H (cs := [.int .u64 x.f0, .string x.f1, .bool x.f2]) (t := 41) ?hr ?_;
   (case hr => first | (go_simp; done) | (go_simp; rfl));
   intro gx wd2 n_;
   simp only [Act.put, zA, zZ, zS];
   clear H;
   have H := n_;
   clear n_;
   have c_x := H.out.cell (g := gx) aQ;
   have c_q := aH (bJ HQ.out H.out.below) 0)
 |fail)
  go_ret
  refine ⟨?_, H.out.below⟩
  simp [hqb]
 ·
  have hqb : (x.f0 == q) = false := by simpa using hq
  clear hq
  go_wp2_with (first
 |((with_reducible refine aV (N := 2) rfl ?_);
   refine bP rfl H (cs := [.int .u64 x.f0, .string x.f1, .bool x.f2]) (t := 41) ?hr ?_;
   (case hr => first | (go_simp; done) | (go_simp; rfl));
   intro gx wd3 n_;
   simp only [Act.put, zA, zZ, zS];
   clear H;
   have H := n_;
   clear n_;
   have c_x := H.out.cell (g := gx) aQ;
   have c_q := aH (bJ HQ.out H.out.below) 0)
 |fail)
  go_ret
  refine ⟨?_, H.out.below⟩
  simp [hqb]
def jL (q : Int) (x : S41) : Bool := x.f0 == q && x.f2
def V9 (o : Option Nat) (e : Ending) : Prop := (∃ i : Nat, o = some i ∧ e = .returned (.int .i64 (i : Int))) ∨ (o = none ∧ e = .panicked [{ v := .iface 34 (.int .i64 19), recovered := false }])
set_option maxHeartbeats 4000000 in
theorem WA {b w : World} {rs : List Res} (gl : Nat) (A : Option Addr) (c : Nat) (B : Option Addr) (d : Nat) (Q : Qu) (q : Int) (H0 : aC (Sep b w (box gl (qc A c B d Q) 101 :: oO A c Q.L.l :: uG B d Q.es :: rs))) :
  Calls Tryz.prog 60 #[.pointer (some ⟨gl, 0, none⟩), .int .u64 q] w fun e w' => V9 (oQ (jL q) Q.es) e ∧ aC (Sep b w' (box gl (qc A c B d Q) 101 :: oO A c Q.L.l :: uG B d Q.es :: rs)) := by
 have H : aC (Sep b w (box gl [.slice A Q.L.l.length c, .bool Q.L.dn, .int .i64 Q.L.fu, .int .i64 Q.L.fa, .int .i64 Q.L.size, .int .u64 Q.L.fr, .int .u64 Q.L.nx, .bool Q.L.br, .slice B Q.es.length d, .int .i64 Q.most] 101 :: row k67 67 (.slice A (Q.L.l).length c) Q.L.l :: row k41 41 (.slice B (Q.es).length d) Q.es :: rs)) := H0
 clear H0
 have c_l := H.out.cell (g := gl) aQ
 have hmf : ∀ (fn : Fn) (first cap : Array Value) (w : World), (Instr.makeFunc fn first cap).run Tryz.prog w = .ok (.func fn first cap) w := fun _ _ _ _ => rfl
 go_enter Tryz.func60, Tryz.ntmps60
 go_wp2_with (first
 |((with_reducible refine aV (N := 3) rfl ?_);
   refine bP rfl H (cs := [.int .u64 q]) (t := 28) ?hr ?_;
   (case hr => first | (go_simp; done) | (go_simp; rfl));
   intro gs wd4 n_;
   simp only [Act.put, zA, zZ, zS];
   clear H c_l;
   have H := n_;
   clear n_;
   have c_s := H.out.cell (g := gs) aQ;
   have c_l := H.out.cell (g := gl) mem1)
 |fail)
 refine ((ND (jL q) 102 [.pointer (some ⟨gs, 0, none⟩)] B d Q.es _ (H.out.reads mem3).2.2 (fun args w => by simp [go_sem]) (fun x w' hb => qdn x gs q w' (bJ (H.out.lD (g := gs) aQ) hb))).mono ?_)
 rintro e wd5 ⟨rfl, hb_⟩
 have n_ : aC (Sep b wd5 (box gs [.int .u64 q] 28 :: box gl [.slice A Q.L.l.length c, .bool Q.L.dn, .int .i64 Q.L.fu, .int .i64 Q.L.fa, .int .i64 Q.L.size, .int .u64 Q.L.fr, .int .u64 Q.L.nx, .bool Q.L.br, .slice B Q.es.length d, .int .i64 Q.most] 101 :: row k67 67 (.slice A (Q.L.l).length c) Q.L.l :: row k41 41 (.slice B (Q.es).length d) Q.es :: rs)) := ⟨H.out.step hb_⟩
 clear H c_s c_l
 have H := n_
 clear n_
 have c_s := H.out.cell (g := gs) aQ
 have c_l := H.out.cell (g := gl) mem1
 clear hb_
 cases hix : oQ (jL q) Q.es with
 | none =>
  have hi : FU (jL q) Q.es = -1 := by rw [FU, hix]
  rw [hi]
  go_wp2_with fail
  refine (vP 19 _).mono ?_
  rintro e w_ ⟨rfl, rfl⟩
  exact ⟨rfl, .inr ⟨hix, rfl⟩, ⟨(Sep.dJ H.out)⟩⟩
 | some i =>
  have hi : FU (jL q) Q.es = (i : Int) := by rw [FU, hix]
  rw [hi]
  have hi0 : (0 : Int) ≤ (i : Int) := by omega
  go_wp2_with fail
  refine (sN 19 _).mono ?_
  rintro e w_ ⟨rfl, rfl⟩
  go_wp2_with fail
  go_ret
  exact ⟨.inl ⟨i, hix, rfl⟩, ⟨(Sep.dJ H.out)⟩⟩
theorem qdo (W : World) (ok : Nat → Prop) (x : Int) : fP ((Kd.int .u8).M W 0 ok) (Kd.int .u8).sz [x] [.int .u8 x] := by
 refine ⟨rfl, fun j p hj => ?_⟩
 have hj0 : j = 0 := by
  have := (List.getElem?_eq_some_iff.1 hj).1
  simpa using this
 subst hj0
 have : x = p := by simpa using hj
 subst this
 rfl
def qdp (n : Int) : List Int := 65 :: rQ n 8
def kD (n : Int) : ByteArray := strOfNums (qdp n)
theorem NG (n : Int) : (kD n).size = 9 := by rw [kD, strOfNums_size]; simp [qdp, rQ]
set_option maxHeartbeats 4000000 in
theorem qaB (n : Int) (w : World) (hn : 0 ≤ n) (hn2 : n < 18446744073709551616) : Calls Tryz.prog 61 #[.int .u64 n] w fun e w' => e = .returned (.string (kD n)) ∧ Below w.heap.size w w' := by
 have H := aC.mk (Sep.start w)
 go_enter Tryz.func61, Tryz.ntmps61
 go_wp2_with (first
 |((with_reducible refine aV (N := 5) rfl ?_);
   refine XC rfl H [.int .u8 65] 5 1 ?hr ?_;
   (case hr => first | (go_simp; done) | (go_simp; rfl));
   intro go wd6 m_;
   have n_ := aC.mk (qcC (d := Kd.int .u8) (l := [(65 : Int)]) (qdo _ _ _) (by decide) m_.out);
   clear m_;
   simp only [Act.put, zA, zZ, zS];
   clear H;
   have H := n_;
   clear n_)
 |fail)
 go_loopw [3, 4] (fun v3 v4 wr => ∃ (k : Nat) (A : Option Addr) (c : Nat) (ys : List Int), v3 = .slice A ys.length c ∧ v4 = .int .i64 ((8 * k : Nat) : Int) ∧ k ≤ 8 ∧ ys.length ≤ 9 ∧ aC (ys = 65 :: rQ n k) ∧ aC (Sep w wr [row (Kd.int .u8) 5 (.slice A ys.length c) ys]))
  (fun _ v4 _ => 64 - (intOf v4).toNat)
 case atStart => exact ⟨0, some ⟨go, 0, none⟩, 1, [65], rfl, rfl, by omega, by decide, ⟨rfl⟩, H⟩
 case round =>
  clear H
  obtain ⟨k, A, c, ys, rfl, rfl, hk, hy, HY, H⟩ := hrel
  by_cases hlt : k < 8
  ·have hk2 : ((8 * k : Nat) : Int) < 64 := by omega
   have hk0 : (0 : Int) ≤ ((8 * k : Nat) : Int) := by omega
   have hw3 : wrap64 (((8 * k : Nat) : Int) + 8) = ((8 * (k + 1) : Nat) : Int) := by
    unfold wrap64
    omega
   have hy2 : ys.length < 9 := by rw [HY.out]; simp [rQ]; omega
   go_wp2_with (first
 |((with_reducible refine iF (b := .append) (xs := #[.tmp 10, .tmp 15]) rfl ?_); at_builtin;
   refine Q7 (Kd.int .u8) (QZ _) rfl (.tmp 10) (.tmp 15) 147 5 (.int .u8 0) 1 rfl Tryz.underlying147 info5 rfl (by decide) (by omega) _ ys (n / 2 ^ (8 * k) % 256) [.int .u8 (n / 2 ^ (8 * k) % 256)] rfl rfl ?hp H ?hl ?_;
   (case hp => rfl); (case hl => omega);
   intro A1 c1 w1 H1; clear H; have H := H1; clear H1;
   simp only [Act.put, zA, zZ, zS])
 |fail)
   try rw [hw3]
   refine ⟨⟨k + 1, A1, c1, ys ++ [n / 2 ^ (8 * k) % 256], ?_, rfl, by omega, ?_, ⟨by rw [HY.out, MP]; rfl⟩, H⟩, by simp [intOf]; omega⟩
   ·rw [List.length_append, List.length_singleton]
   ·rw [List.length_append, List.length_singleton]
    omega
  ·obtain rfl : k = 8 := by omega
   have hs2 := Kd.xJ (P := Tryz.prog) (src := 147) (dst := 9) (e := 5) (c := c) Tryz.underlying147 Tryz.underlying5 Tryz.underlying9 (H.out.reads aQ).2.2
   go_wp2_with fail
   go_ret
   exact ⟨by rw [HY.out]; rfl, H.out.below⟩
end Go.Proofs.U
namespace Go.Proofs.U
open Go.RowKit Go.Proofs.aA.aK Go.Proofs.aA.aW Go.Proofs.aA.aZ
attribute [local go_sem] gV gW iU iV fU fV gZ iC
mutual
def bV.j0 : Nat → Bool → List (S67) → Bool → Int → Int → Int → Int → Int → Bool → List (S41) → Int → Option (Int)
 | 0, _, _, _, _, _, _, _, _, _, _, _ => none
 | k + 1, x3, yZ, y5, y7, y8, y9, wP, wQ, zB, uK, zC => bV.l0 k x3 wP uK (uK.length : Int) 0 yZ y5 y7 y8 y9 wP wQ zB uK zC
def bV.l0 : Nat → Bool → Int → List (S41) → Int → Int → List (S67) → Bool → Int → Int → Int → Int → Int → Bool → List (S41) → Int → Option (Int)
 | 0, _, _, _, _, _, _, _, _, _, _, _, _, _, _, _ => none
 | k + 1, x3, x4, x29, x30, x31, yZ, y5, y7, y8, y9, wP, wQ, zB, uK, zC => if x31 < x30 then (if 0 ≤ x31 then (if x31 < (x29.length : Int) then (if x3 = true then (if (((iD x29 x31).f1).size : Int) < 65536 then (if ((iD x29 x31).f0) ≥ x4 then (bV.l0 k (decide (((iD x29 x31).f0) < wQ)) (IntKind.u64.wrap (((iD x29 x31).f0) + 1)) x29 x30 (wrap64 (x31 + 1)) yZ y5 y7 y8 y9 wP wQ zB uK zC) else (bV.l0 k false (IntKind.u64.wrap (((iD x29 x31).f0) + 1)) x29 x30 (wrap64 (x31 + 1)) yZ y5 y7 y8 y9 wP wQ zB uK zC)) else (bV.l0 k false (IntKind.u64.wrap (((iD x29 x31).f0) + 1)) x29 x30 (wrap64 (x31 + 1)) yZ y5 y7 y8 y9 wP wQ zB uK zC)) else (bV.l0 k false (IntKind.u64.wrap (((iD x29 x31).f0) + 1)) x29 x30 (wrap64 (x31 + 1)) yZ y5 y7 y8 y9 wP wQ zB uK zC)) else (none)) else (none)) else (if x3 = true then (some 0) else (some 6))
end
def bV.f (k : Nat) (bF : List (S67)) (cO : Bool) (cZ : Int) (dA : Int) (fB : Int) (fD : Int) (eP : Int) (fO : Bool) (eY : List (S41)) (iY : Int) : Option (Int) := (fZ.f bF cO cZ dA fB fD eP fO).bind fun t196 => (if t196 = 0 then (if iY ≥ 1 then (bV.j0 k (decide ((mx iY (eY.length : Int)) ≤ 1024)) bF cO cZ dA fB fD eP fO eY iY) else (bV.j0 k false bF cO cZ dA fB fD eP fO eY iY)) else (bV.j0 k false bF cO cZ dA fB fD eP fO eY iY))
set_option maxHeartbeats 8000000 in
theorem bV.calls (k : Nat) (dQ : Option Addr) (dR : Nat) (bF : List (S67)) (cO : Bool) (cZ : Int) (dA : Int) (fB : Int) (fD : Int) (eP : Int) (fO : Bool) (DY : Option Addr) (qN : Nat) (eY : List (S41)) (iY : Int) (r : Int) (w : World) (jV : Kd.C k67 w dQ bF.length bF) (lF : bF.length ≤ dR) (qdO : Kd.C k41 w DY eY.length eY) (qdP : eY.length ≤ qN) (h : bV.f k bF cO cZ dA fB fD eP fO eY iY = some r) :
    Calls Tryz.prog 39 #[.agg #[.slice dQ bF.length dR, .bool cO, .int .i64 cZ, .int .i64 dA, .int .i64 fB, .int .u64 fD, .int .u64 eP, .bool fO, .slice DY eY.length qN, .int .i64 iY]] w fun e w' => e = .returned (.int .i64 r) ∧ Below w.heap.size w w' := by
  have qi3 := Tryz.underlying33
  have qhY := Tryz.underlying30
  have qi4 := Tryz.underlying41
  have zQ := aC.mk jV
  have zT := aC.mk lF
  clear jV lF
  have X4 := aC.mk qdO
  have qiE := aC.mk qdP
  clear qdO qdP
  have HB := aC.mk (Below.refl w.heap.size w)
  have H : ((fZ.f bF cO cZ dA fB fD eP fO).bind fun t196 => (if t196 = 0 then (if iY ≥ 1 then (bV.j0 k (decide ((mx iY (eY.length : Int)) ≤ 1024)) bF cO cZ dA fB fD eP fO eY iY) else (bV.j0 k false bF cO cZ dA fB fD eP fO eY iY)) else (bV.j0 k false bF cO cZ dA fB fD eP fO eY iY))) = some r := h
  clear h
  have HC2 := aC.mk H
  clear H
  go_enter Tryz.func39, Tryz.ntmps39
  go_upto_region 1 with (first | ((with_reducible refine aV (N := 1) rfl ?_); (try (refine sV (by rfl) ?_; dsimp only)); refine dL ?hg (N := 1) ?hd (cs := #[.slice dQ bF.length dR, .bool cO, .int .i64 cZ, .int .i64 dA, .int .i64 fB, .int .u64 fD, .int .u64 eP, .bool fO, .slice DY eY.length qN, .int .i64 iY]) (t := 33) ?hr ?_; (case hd => rfl); (case hg => rfl); (case hr => first | (go_simp; done) | (go_simp; rfl)); intro dF hg w3 hbox hb; have n0_ := aC.mk (bD (by repeat (first | (with_reducible first | exact HB.out | apply aU | apply aT | apply aY) | exact HB.out)) hb); have n1_ := aC.mk (hbox); have n2_ := aC.mk ((by rw [hg]; exact (dU (by repeat (first | (with_reducible first | exact HB.out | apply aU | apply aT | apply aY) | exact HB.out))) : w.heap.size ≤ dF)); have n3_ := aC.mk ((by rw [hg]; exact (dU (by repeat (first | (with_reducible first | exact HB.out | apply aU | apply aT | apply aY) | exact HB.out))) : w.heap.size ≤ dF)); clear HB; have HB := n0_; have bH := n1_; have qiF := n2_; have lG := n3_; clear n0_ n1_ n2_ n3_; clear hb hbox hg))
  (try simp only [Act.put, zA, zZ, zS])
  go_cut [3] (fun v3 wc => ∃ (kq : Nat) (qdq : Bool), v3 = .bool qdq ∧ aC (bV.j0 kq qdq bF cO cZ dA fB fD eP fO eY iY = some r) ∧ aC (kq ≤ k) ∧ aC (wc.heap[dF]? = some (.cells #[(.slice dQ bF.length dR), .bool cO, .int .i64 cZ, .int .i64 dA, .int .i64 fB, .int .u64 fD, .int .u64 eP, .bool fO, (.slice DY eY.length qN), .int .i64 iY] 33 (0, 0))) ∧ aC (Below w.heap.size w wc))
  case first =>
    have H := HC2.out
    clear HC2
    replace H := Option.bind_eq_some_iff.mp H
    obtain ⟨t196, A40, H⟩ := H
    replace H : (if t196 = 0 then (if iY ≥ 1 then (bV.j0 k (decide ((mx iY (eY.length : Int)) ≤ 1024)) bF cO cZ dA fB fD eP fO eY iY) else (bV.j0 k false bF cO cZ dA fB fD eP fO eY iY)) else (bV.j0 k false bF cO cZ dA fB fD eP fO eY iY)) = some r := H
    have A4 := aC.mk A40
    clear A40
    by_cases c5 : t196 = 0
    · rw [if_pos c5] at H
      have WB : (t196 == 0) = true := beq_iff_eq.mpr c5
      have qeA : (t196 != 0) = false := bne_eq_false_iff_eq.mpr c5
      clear c5
      (first | rw [WB] | (simp only [aI, aJ]; rw [WB]) | skip)
      by_cases c6 : iY ≥ 1
      · rw [if_pos c6] at H
        have qeB : decide (1 ≤ iY) = true := decide_eq_true c6
        clear c6
        obtain ⟨ji7, qaC⟩ : ∃ j_ : Int, (mx iY (eY.length : Int)) = j_ := ⟨_, rfl⟩
        replace H : (bV.j0 k (decide ((ji7) ≤ 1024)) bF cO cZ dA fB fD eP fO eY iY) = some r := by first | (rw [qaC] at H; exact H) | (simp only [qaC] at H ⊢; exact H)
        (try rw [qaC] at A4)
        (try (have qiG : 0 ≤ ji7 := by (rw [← qaC]; unfold mx; (repeat' split) <;> omega)))
        (try (have qiH : 0 ≤ ji7 := by omega))
        have qiI : (if iY < (eY.length : Int) then (eY.length : Int) else iY) = ji7 := qaC
        have H' := aC.mk H
        clear H
        have VL : w3.cell? ⟨dF, 0, none⟩ = some (.slice dQ bF.length dR) := (aH bH.out 0).trans rfl
        have VN : w3.cell? ⟨dF, 1, none⟩ = some (.bool cO) := (aH bH.out 1).trans rfl
        have VO : w3.cell? ⟨dF, 2, none⟩ = some (.int .i64 cZ) := (aH bH.out 2).trans rfl
        have VP : w3.cell? ⟨dF, 3, none⟩ = some (.int .i64 dA) := (aH bH.out 3).trans rfl
        have VQ : w3.cell? ⟨dF, 4, none⟩ = some (.int .i64 fB) := (aH bH.out 4).trans rfl
        have VR : w3.cell? ⟨dF, 5, none⟩ = some (.int .u64 fD) := (aH bH.out 5).trans rfl
        have VT : w3.cell? ⟨dF, 6, none⟩ = some (.int .u64 eP) := (aH bH.out 6).trans rfl
        have VU : w3.cell? ⟨dF, 7, none⟩ = some (.bool fO) := (aH bH.out 7).trans rfl
        have qb3 : w3.cell? ⟨dF, 8, none⟩ = some (.slice DY eY.length qN) := (aH bH.out 8).trans rfl
        have qb4 : w3.cell? ⟨dF, 9, none⟩ = some (.int .i64 iY) := (aH bH.out 9).trans rfl
        have VW := aG bH.out 0
        have VX := aG bH.out 1
        have VY := aG bH.out 2
        have VZ := aG bH.out 3
        have V3 := aG bH.out 4
        have V4 := aG bH.out 5
        have V5 := aG bH.out 6
        have V6 := aG bH.out 7
        have qb5 := aG bH.out 8
        have qb6 := aG bH.out 9
        go_wp2_with (first | ((with_reducible refine iT (f := 33) rfl ?_); refine rO (some 9) rfl rfl Tryz.func33 (by kernel_rfl) rfl #[.agg #[.slice dQ bF.length dR, .bool cO, .int .i64 cZ, .int .i64 dA, .int .i64 fB, .int .u64 fD, .int .u64 eP, .bool fO]] rfl (by (try simp only [List.map_toArray, List.map_cons, List.map_nil]); first | done | rfl | (simp only [List.length_drop, List.length_take]; rfl)) ?_; (with_reducible refine (fZ.calls _ _ bF cO cZ dA fB fD eP fO t196 _ ?qB ?qC A4.out).mono ?_); (case qB => repeat (first | exact (Kd.fG zQ.out HB.out) | (with_reducible refine Kd.rZ ?_ _) | (with_reducible refine Kd.sD ?_ _) | (with_reducible refine Kd.vZ ?_))); (case qC => exact zT.out); rintro e w9 ⟨rfl, hb⟩; refine ⟨_, rfl, ?_⟩; have n0_ := aC.mk (bJ (g := dF) (o := .cells #[.slice dQ bF.length dR, .bool cO, .int .i64 cZ, .int .i64 dA, .int .i64 fB, .int .u64 fD, .int .u64 eP, .bool fO, .slice DY eY.length qN, .int .i64 iY] 33 (0, 0)) (by (with_reducible repeat (first | refine bZ ?_ _ | refine bQ ?_ | refine bG ?_ _)); exact bH.out) hb); have n1_ := aC.mk (bD (by repeat (first | (with_reducible first | exact HB.out | apply aU | apply aT | apply aY | refine bK ?_ lG.out) | exact HB.out)) hb); clear bH; clear HB; have bH := n0_; have HB := n1_; clear n0_ n1_; (try clear hb); (try clear hb2); (try clear hk); (try clear hi); have X5 : w9.cell? ⟨dF, 0, none⟩ = some (.slice dQ bF.length dR) := (aH bH.out 0).trans rfl; have X6 : w9.cell? ⟨dF, 1, none⟩ = some (.bool cO) := (aH bH.out 1).trans rfl; have X7 : w9.cell? ⟨dF, 2, none⟩ = some (.int .i64 cZ) := (aH bH.out 2).trans rfl; have X8 : w9.cell? ⟨dF, 3, none⟩ = some (.int .i64 dA) := (aH bH.out 3).trans rfl; have X9 : w9.cell? ⟨dF, 4, none⟩ = some (.int .i64 fB) := (aH bH.out 4).trans rfl; have YA : w9.cell? ⟨dF, 5, none⟩ = some (.int .u64 fD) := (aH bH.out 5).trans rfl; have YB : w9.cell? ⟨dF, 6, none⟩ = some (.int .u64 eP) := (aH bH.out 6).trans rfl; have YC : w9.cell? ⟨dF, 7, none⟩ = some (.bool fO) := (aH bH.out 7).trans rfl; have YD : w9.cell? ⟨dF, 8, none⟩ = some (.slice DY eY.length qN) := (aH bH.out 8).trans rfl; have YE : w9.cell? ⟨dF, 9, none⟩ = some (.int .i64 iY) := (aH bH.out 9).trans rfl; have YF := aG bH.out 0; have YG := aG bH.out 1; have YH := aG bH.out 2; have YI := aG bH.out 3; have YJ := aG bH.out 4; have YK := aG bH.out 5; have YL := aG bH.out 6; have YM := aG bH.out 7; have YN := aG bH.out 8; have YO := aG bH.out 9))
        go_meet
        case rel => exact ⟨_, (decide ((ji7) ≤ 1024)), (by first | rfl | (simp; done) | (simp only [← qaC] <;> (first | rfl | simp)) | (simp [*]; done)), H', ⟨by first | omega | exact Nat.le_refl _⟩, ⟨by (with_reducible repeat (first | refine bZ ?_ _ | refine bQ ?_ | refine bG ?_ _)); exact bH.out⟩, ⟨by repeat (first | (with_reducible first | exact HB.out | apply aU | apply aT | apply aY | refine bK ?_ lG.out) | exact HB.out)⟩⟩
      · rw [if_neg c6] at H
        have qeB : decide (1 ≤ iY) = false := decide_eq_false c6
        clear c6
        have H' := aC.mk H
        clear H
        have OW : w3.cell? ⟨dF, 0, none⟩ = some (.slice dQ bF.length dR) := (aH bH.out 0).trans rfl
        have OX : w3.cell? ⟨dF, 1, none⟩ = some (.bool cO) := (aH bH.out 1).trans rfl
        have OY : w3.cell? ⟨dF, 2, none⟩ = some (.int .i64 cZ) := (aH bH.out 2).trans rfl
        have OZ : w3.cell? ⟨dF, 3, none⟩ = some (.int .i64 dA) := (aH bH.out 3).trans rfl
        have O1 : w3.cell? ⟨dF, 4, none⟩ = some (.int .i64 fB) := (aH bH.out 4).trans rfl
        have O4 : w3.cell? ⟨dF, 5, none⟩ = some (.int .u64 fD) := (aH bH.out 5).trans rfl
        have O5 : w3.cell? ⟨dF, 6, none⟩ = some (.int .u64 eP) := (aH bH.out 6).trans rfl
        have O6 : w3.cell? ⟨dF, 7, none⟩ = some (.bool fO) := (aH bH.out 7).trans rfl
        have YP : w3.cell? ⟨dF, 8, none⟩ = some (.slice DY eY.length qN) := (aH bH.out 8).trans rfl
        have YQ : w3.cell? ⟨dF, 9, none⟩ = some (.int .i64 iY) := (aH bH.out 9).trans rfl
        have O7 := aG bH.out 0
        have O8 := aG bH.out 1
        have O9 := aG bH.out 2
        have PD := aG bH.out 3
        have PE := aG bH.out 4
        have PG := aG bH.out 5
        have PI := aG bH.out 6
        have PK := aG bH.out 7
        have YR := aG bH.out 8
        have YS := aG bH.out 9
        go_wp2_with (first | ((with_reducible refine iT (f := 33) rfl ?_); refine rO (some 9) rfl rfl Tryz.func33 (by kernel_rfl) rfl #[.agg #[.slice dQ bF.length dR, .bool cO, .int .i64 cZ, .int .i64 dA, .int .i64 fB, .int .u64 fD, .int .u64 eP, .bool fO]] rfl (by (try simp only [List.map_toArray, List.map_cons, List.map_nil]); first | done | rfl | (simp only [List.length_drop, List.length_take]; rfl)) ?_; (with_reducible refine (fZ.calls _ _ bF cO cZ dA fB fD eP fO t196 _ ?qB ?qC A4.out).mono ?_); (case qB => repeat (first | exact (Kd.fG zQ.out HB.out) | (with_reducible refine Kd.rZ ?_ _) | (with_reducible refine Kd.sD ?_ _) | (with_reducible refine Kd.vZ ?_))); (case qC => exact zT.out); rintro e w12 ⟨rfl, hb⟩; refine ⟨_, rfl, ?_⟩; have n0_ := aC.mk (bJ (g := dF) (o := .cells #[.slice dQ bF.length dR, .bool cO, .int .i64 cZ, .int .i64 dA, .int .i64 fB, .int .u64 fD, .int .u64 eP, .bool fO, .slice DY eY.length qN, .int .i64 iY] 33 (0, 0)) (by (with_reducible repeat (first | refine bZ ?_ _ | refine bQ ?_ | refine bG ?_ _)); exact bH.out) hb); have n1_ := aC.mk (bD (by repeat (first | (with_reducible first | exact HB.out | apply aU | apply aT | apply aY | refine bK ?_ lG.out) | exact HB.out)) hb); clear bH; clear HB; have bH := n0_; have HB := n1_; clear n0_ n1_; (try clear hb); (try clear hb2); (try clear hk); (try clear hi); have PL : w12.cell? ⟨dF, 0, none⟩ = some (.slice dQ bF.length dR) := (aH bH.out 0).trans rfl; have PN : w12.cell? ⟨dF, 1, none⟩ = some (.bool cO) := (aH bH.out 1).trans rfl; have PO : w12.cell? ⟨dF, 2, none⟩ = some (.int .i64 cZ) := (aH bH.out 2).trans rfl; have PS : w12.cell? ⟨dF, 3, none⟩ = some (.int .i64 dA) := (aH bH.out 3).trans rfl; have PU : w12.cell? ⟨dF, 4, none⟩ = some (.int .i64 fB) := (aH bH.out 4).trans rfl; have PV : w12.cell? ⟨dF, 5, none⟩ = some (.int .u64 fD) := (aH bH.out 5).trans rfl; have PW : w12.cell? ⟨dF, 6, none⟩ = some (.int .u64 eP) := (aH bH.out 6).trans rfl; have PX : w12.cell? ⟨dF, 7, none⟩ = some (.bool fO) := (aH bH.out 7).trans rfl; have YT : w12.cell? ⟨dF, 8, none⟩ = some (.slice DY eY.length qN) := (aH bH.out 8).trans rfl; have YU : w12.cell? ⟨dF, 9, none⟩ = some (.int .i64 iY) := (aH bH.out 9).trans rfl; have PY := aG bH.out 0; have PZ := aG bH.out 1; have P5 := aG bH.out 2; have P6 := aG bH.out 3; have P7 := aG bH.out 4; have P8 := aG bH.out 5; have P9 := aG bH.out 6; have QA := aG bH.out 7; have YV := aG bH.out 8; have YW := aG bH.out 9))
        go_meet
        case rel => exact ⟨_, (false), (by first | rfl | (simp; done) | (simp [*]; done)), H', ⟨by first | omega | exact Nat.le_refl _⟩, ⟨by (with_reducible repeat (first | refine bZ ?_ _ | refine bQ ?_ | refine bG ?_ _)); exact bH.out⟩, ⟨by repeat (first | (with_reducible first | exact HB.out | apply aU | apply aT | apply aY | refine bK ?_ lG.out) | exact HB.out)⟩⟩
    · rw [if_neg c5] at H
      have WB : (t196 == 0) = false := beq_eq_false_iff_ne.mpr c5
      have qeA : (t196 != 0) = true := bne_iff_ne.mpr c5
      (first | rw [WB] | (simp only [aI, aJ]; rw [WB]) | skip)
      have H' := aC.mk H
      clear H
      have YX : w3.cell? ⟨dF, 0, none⟩ = some (.slice dQ bF.length dR) := (aH bH.out 0).trans rfl
      have YZ : w3.cell? ⟨dF, 1, none⟩ = some (.bool cO) := (aH bH.out 1).trans rfl
      have Y0 : w3.cell? ⟨dF, 2, none⟩ = some (.int .i64 cZ) := (aH bH.out 2).trans rfl
      have Y1 : w3.cell? ⟨dF, 3, none⟩ = some (.int .i64 dA) := (aH bH.out 3).trans rfl
      have Y2 : w3.cell? ⟨dF, 4, none⟩ = some (.int .i64 fB) := (aH bH.out 4).trans rfl
      have Y3 : w3.cell? ⟨dF, 5, none⟩ = some (.int .u64 fD) := (aH bH.out 5).trans rfl
      have Y4 : w3.cell? ⟨dF, 6, none⟩ = some (.int .u64 eP) := (aH bH.out 6).trans rfl
      have Y5 : w3.cell? ⟨dF, 7, none⟩ = some (.bool fO) := (aH bH.out 7).trans rfl
      have Y6 : w3.cell? ⟨dF, 8, none⟩ = some (.slice DY eY.length qN) := (aH bH.out 8).trans rfl
      have Y7 : w3.cell? ⟨dF, 9, none⟩ = some (.int .i64 iY) := (aH bH.out 9).trans rfl
      have Y8 := aG bH.out 0
      have Y9 := aG bH.out 1
      have ZA := aG bH.out 2
      have ZB := aG bH.out 3
      have ZC := aG bH.out 4
      have ZE := aG bH.out 5
      have ZF := aG bH.out 6
      have ZG := aG bH.out 7
      have ZH := aG bH.out 8
      have ZI := aG bH.out 9
      go_wp2_with (first | ((with_reducible refine iT (f := 33) rfl ?_); refine rO (some 9) rfl rfl Tryz.func33 (by kernel_rfl) rfl #[.agg #[.slice dQ bF.length dR, .bool cO, .int .i64 cZ, .int .i64 dA, .int .i64 fB, .int .u64 fD, .int .u64 eP, .bool fO]] rfl (by (try simp only [List.map_toArray, List.map_cons, List.map_nil]); first | done | rfl | (simp only [List.length_drop, List.length_take]; rfl)) ?_; (with_reducible refine (fZ.calls _ _ bF cO cZ dA fB fD eP fO t196 _ ?qB ?qC A4.out).mono ?_); (case qB => repeat (first | exact (Kd.fG zQ.out HB.out) | (with_reducible refine Kd.rZ ?_ _) | (with_reducible refine Kd.sD ?_ _) | (with_reducible refine Kd.vZ ?_))); (case qC => exact zT.out); rintro e w15 ⟨rfl, hb⟩; refine ⟨_, rfl, ?_⟩; have n0_ := aC.mk (bJ (g := dF) (o := .cells #[.slice dQ bF.length dR, .bool cO, .int .i64 cZ, .int .i64 dA, .int .i64 fB, .int .u64 fD, .int .u64 eP, .bool fO, .slice DY eY.length qN, .int .i64 iY] 33 (0, 0)) (by (with_reducible repeat (first | refine bZ ?_ _ | refine bQ ?_ | refine bG ?_ _)); exact bH.out) hb); have n1_ := aC.mk (bD (by repeat (first | (with_reducible first | exact HB.out | apply aU | apply aT | apply aY | refine bK ?_ lG.out) | exact HB.out)) hb); clear bH; clear HB; have bH := n0_; have HB := n1_; clear n0_ n1_; (try clear hb); (try clear hb2); (try clear hk); (try clear hi)))
      go_meet
      case rel => exact ⟨_, (false), (by first | rfl | (simp; done) | (simp [*]; done)), H', ⟨by first | omega | exact Nat.le_refl _⟩, ⟨by (with_reducible repeat (first | refine bZ ?_ _ | refine bQ ?_ | refine bG ?_ _)); exact bH.out⟩, ⟨by repeat (first | (with_reducible first | exact HB.out | apply aU | apply aT | apply aY | refine bK ?_ lG.out) | exact HB.out)⟩⟩
  case rest =>
    clear HC2
    try clear p2
    try clear c3
    try clear c5
    try clear WB
    try clear qeA
    try clear c6
    try clear qeB
    try clear X5
    try clear X6
    try clear X7
    try clear X8
    try clear X9
    try clear YA
    try clear YB
    try clear YC
    try clear YD
    try clear YE
    try clear OW
    try clear OX
    try clear OY
    try clear OZ
    try clear O1
    try clear O4
    try clear O5
    try clear O6
    try clear YP
    try clear YQ
    try clear PL
    try clear PN
    try clear PO
    try clear PS
    try clear PU
    try clear PV
    try clear PW
    try clear PX
    try clear YT
    try clear YU
    try clear YX
    try clear YZ
    try clear Y0
    try clear Y1
    try clear Y2
    try clear Y3
    try clear Y4
    try clear Y5
    try clear Y6
    try clear Y7
    try clear VL
    try clear VN
    try clear VO
    try clear VP
    try clear VQ
    try clear VR
    try clear VT
    try clear VU
    try clear qb3
    try clear qb4
    try clear YF
    try clear YG
    try clear YH
    try clear YI
    try clear YJ
    try clear YK
    try clear YL
    try clear YM
    try clear YN
    try clear YO
    try clear O7
    try clear O8
    try clear O9
    try clear PD
    try clear PE
    try clear PG
    try clear PI
    try clear PK
    try clear YR
    try clear YS
    try clear PY
    try clear PZ
    try clear P5
    try clear P6
    try clear P7
    try clear P8
    try clear P9
    try clear QA
    try clear YV
    try clear YW
    try clear Y8
    try clear Y9
    try clear ZA
    try clear ZB
    try clear ZC
    try clear ZE
    try clear ZF
    try clear ZG
    try clear ZH
    try clear ZI
    try clear VW
    try clear VX
    try clear VY
    try clear VZ
    try clear V3
    try clear V4
    try clear V5
    try clear V6
    try clear qb5
    try clear qb6
    obtain ⟨kq, qdq, rfl, HA, HJ1, bH, HB⟩ := hcut
    cases kq with
    | zero => exact absurd HA.out (by simp [bV.j0])
    | succ kj1 =>
      have H := HA.out
      clear HA
      simp only [bV.j0] at H
      have H' := aC.mk H
      clear H
      have XI : wc.cell? ⟨dF, 0, none⟩ = some (.slice dQ bF.length dR) := (aH bH.out 0).trans rfl
      have XJ : wc.cell? ⟨dF, 1, none⟩ = some (.bool cO) := (aH bH.out 1).trans rfl
      have XK : wc.cell? ⟨dF, 2, none⟩ = some (.int .i64 cZ) := (aH bH.out 2).trans rfl
      have XL : wc.cell? ⟨dF, 3, none⟩ = some (.int .i64 dA) := (aH bH.out 3).trans rfl
      have XM : wc.cell? ⟨dF, 4, none⟩ = some (.int .i64 fB) := (aH bH.out 4).trans rfl
      have XO : wc.cell? ⟨dF, 5, none⟩ = some (.int .u64 fD) := (aH bH.out 5).trans rfl
      have XP : wc.cell? ⟨dF, 6, none⟩ = some (.int .u64 eP) := (aH bH.out 6).trans rfl
      have XQ : wc.cell? ⟨dF, 7, none⟩ = some (.bool fO) := (aH bH.out 7).trans rfl
      have qdr : wc.cell? ⟨dF, 8, none⟩ = some (.slice DY eY.length qN) := (aH bH.out 8).trans rfl
      have qds : wc.cell? ⟨dF, 9, none⟩ = some (.int .i64 iY) := (aH bH.out 9).trans rfl
      have XR := aG bH.out 0
      have XT := aG bH.out 1
      have XU := aG bH.out 2
      have XV := aG bH.out 3
      have XW := aG bH.out 4
      have XY := aG bH.out 5
      have XZ := aG bH.out 6
      have X0 := aG bH.out 7
      have qdt := aG bH.out 8
      have qdu := aG bH.out 9
      go_wp2
      go_loopg [3, 4, 31] kj1 (fun kq v3 v4 v31 w' => ∃ (qb7 : Bool) (I4 : Int) (gG : Int), v3 = .bool qb7 ∧ v4 = .int .u64 I4 ∧ v31 = .int .i64 gG ∧ aC (bV.l0 kq qb7 I4 eY (eY.length : Int) gG bF cO cZ dA fB fD eP fO eY iY = some r) ∧ aC (kq ≤ kj1) ∧ aC (w'.heap[dF]? = some (.cells #[(.slice dQ bF.length dR), .bool cO, .int .i64 cZ, .int .i64 dA, .int .i64 fB, .int .u64 fD, .int .u64 eP, .bool fO, (.slice DY eY.length qN), .int .i64 iY] 33 (0, 0))) ∧ aC (Below w.heap.size w w'))
      case atStart => exact ⟨(qdq), (fD), (0), (by first | rfl | (simp; done) | (simp [*]; done)), (by first | rfl | (simp; done) | (simp [*]; done)), (by first | rfl | (simp; done) | (simp [*]; done)), H', ⟨Nat.le_refl _⟩, ⟨by (with_reducible repeat (first | refine bZ ?_ _ | refine bQ ?_ | refine bG ?_ _)); exact bH.out⟩, ⟨by repeat (first | (with_reducible first | exact HB.out | apply aU | apply aT | apply aY | refine bK ?_ lG.out) | exact HB.out)⟩⟩
      case round =>
        clear H'
        try clear p2
        try clear c3
        try clear c5
        try clear WB
        try clear qeA
        try clear c6
        try clear qeB
        try clear X5
        try clear X6
        try clear X7
        try clear X8
        try clear X9
        try clear YA
        try clear YB
        try clear YC
        try clear YD
        try clear YE
        try clear OW
        try clear OX
        try clear OY
        try clear OZ
        try clear O1
        try clear O4
        try clear O5
        try clear O6
        try clear YP
        try clear YQ
        try clear PL
        try clear PN
        try clear PO
        try clear PS
        try clear PU
        try clear PV
        try clear PW
        try clear PX
        try clear YT
        try clear YU
        try clear YX
        try clear YZ
        try clear Y0
        try clear Y1
        try clear Y2
        try clear Y3
        try clear Y4
        try clear Y5
        try clear Y6
        try clear Y7
        try clear XI
        try clear XJ
        try clear XK
        try clear XL
        try clear XM
        try clear XO
        try clear XP
        try clear XQ
        try clear qdr
        try clear qds
        try clear VL
        try clear VN
        try clear VO
        try clear VP
        try clear VQ
        try clear VR
        try clear VT
        try clear VU
        try clear qb3
        try clear qb4
        try clear YF
        try clear YG
        try clear YH
        try clear YI
        try clear YJ
        try clear YK
        try clear YL
        try clear YM
        try clear YN
        try clear YO
        try clear O7
        try clear O8
        try clear O9
        try clear PD
        try clear PE
        try clear PG
        try clear PI
        try clear PK
        try clear YR
        try clear YS
        try clear PY
        try clear PZ
        try clear P5
        try clear P6
        try clear P7
        try clear P8
        try clear P9
        try clear QA
        try clear YV
        try clear YW
        try clear Y8
        try clear Y9
        try clear ZA
        try clear ZB
        try clear ZC
        try clear ZE
        try clear ZF
        try clear ZG
        try clear ZH
        try clear ZI
        try clear XR
        try clear XT
        try clear XU
        try clear XV
        try clear XW
        try clear XY
        try clear XZ
        try clear X0
        try clear qdt
        try clear qdu
        try clear VW
        try clear VX
        try clear VY
        try clear VZ
        try clear V3
        try clear V4
        try clear V5
        try clear V6
        try clear qb5
        try clear qb6
        try clear p2
        obtain ⟨qb7, I4, gG, rfl, rfl, rfl, HA, HK2, bH, HB⟩ := hrel
        cases gk with
        | zero => exact absurd HA.out (by simp [bV.l0])
        | succ k2 =>
          have H := HA.out
          clear HA
          simp only [bV.l0] at H
          by_cases c17 : gG < (eY.length : Int)
          · rw [if_pos c17] at H
            have qfm : decide (gG < (eY.length : Int)) = true := decide_eq_true c17
            clear c17
            by_cases c18 : 0 ≤ gG
            · rw [if_pos c18] at H
              have qiJ : decide (0 ≤ gG) = true := decide_eq_true c18
              clear c18
              by_cases c19 : gG < (eY.length : Int)
              · rw [if_pos c19] at H
                have qdN : decide (gG < (eY.length : Int)) = true := decide_eq_true c19
                clear c19
                by_cases c20 : qb7 = true
                · subst c20
                  have H1 : (if (((iD eY gG).f1).size : Int) < 65536 then (if ((iD eY gG).f0) ≥ I4 then (bV.l0 k2 (decide (((iD eY gG).f0) < eP)) (IntKind.u64.wrap (((iD eY gG).f0) + 1)) eY (eY.length : Int) (wrap64 (gG + 1)) bF cO cZ dA fB fD eP fO eY iY) else (bV.l0 k2 false (IntKind.u64.wrap (((iD eY gG).f0) + 1)) eY (eY.length : Int) (wrap64 (gG + 1)) bF cO cZ dA fB fD eP fO eY iY)) else (bV.l0 k2 false (IntKind.u64.wrap (((iD eY gG).f0) + 1)) eY (eY.length : Int) (wrap64 (gG + 1)) bF cO cZ dA fB fD eP fO eY iY)) = some r := by rw [if_pos rfl] at H; exact H
                  clear H
                  have H := H1
                  clear H1
                  by_cases c21 : (((iD eY gG).f1).size : Int) < 65536
                  · rw [if_pos c21] at H
                    have qfn : decide ((((iD eY gG).f1).size : Int) < 65536) = true := decide_eq_true c21
                    have qfo : decide (((iD eY gG).f1).size < 65536) = true := decide_eq_true (by omega)
                    clear c21
                    by_cases c22 : ((iD eY gG).f0) ≥ I4
                    · rw [if_pos c22] at H
                      have qfp : decide (I4 ≤ ((iD eY gG).f0)) = true := decide_eq_true c22
                      clear c22
                      have H' := aC.mk H
                      clear H
                      have BA : 0 ≤ (gG : Int) := of_decide_eq_true (by first | (with_reducible assumption) | assumption)
                      have BD : gG < (eY.length : Int) := of_decide_eq_true (by first | (with_reducible assumption) | assumption)
                      obtain ⟨rX, e197, kX, kY, kZ⟩ := OE X4.out gG BA BD
                      cases e197
                      replace kX := (HB.out.cell (World.block_lt_of_cell? w _ kX)).trans kX
                      replace kY := (HB.out.cell (World.block_lt_of_cell? w _ kY)).trans kY
                      replace kZ := (HB.out.cell (World.block_lt_of_cell? w _ kZ)).trans kZ
                      replace BA := eq_true BA
                      replace BD := eq_true BD
                      go_wp2_with (first | ((with_reducible refine aV (N := 6) rfl ?_); (try (refine sV (by rfl) ?_; dsimp only)); refine dL ?hg (N := 6) ?hd (cs := #[.int .u64 0, .string (⟨#[]⟩ : ByteArray), .bool false]) (t := 41) ?hr ?_; (case hd => rfl); (case hg => rfl); (case hr => first | (go_simp; done) | (go_simp; rfl)); intro jS hg w23 hbox hb; have n0_ := aC.mk (bJ (g := dF) (o := .cells #[.slice dQ bF.length dR, .bool cO, .int .i64 cZ, .int .i64 dA, .int .i64 fB, .int .u64 fD, .int .u64 eP, .bool fO, .slice (some rX) eY.length qN, .int .i64 iY] 33 (0, 0)) (by (with_reducible repeat (first | refine bZ ?_ _ | refine bQ ?_ | refine bG ?_ _)); exact bH.out) hb); have n1_ := aC.mk (bD (by repeat (first | (with_reducible first | exact HB.out | apply aU | apply aT | apply aY | refine bK ?_ lG.out) | exact HB.out)) hb); have n2_ := aC.mk (hbox); have n3_ := aC.mk ((by rw [hg]; exact (dU (by repeat (first | (with_reducible first | exact HB.out | apply aU | apply aT | apply aY | refine bK ?_ lG.out) | exact HB.out))) : w.heap.size ≤ jS)); have n4_ := aC.mk ((by rw [hg]; exact (dU (by repeat (first | (with_reducible first | exact HB.out | apply aU | apply aT | apply aY | refine bK ?_ lG.out) | exact HB.out))) : w.heap.size ≤ jS)); have n5_ := aC.mk ((by rw [hg]; exact Nat.ne_of_lt (gQ (g := dF) (o := .cells #[.slice dQ bF.length dR, .bool cO, .int .i64 cZ, .int .i64 dA, .int .i64 fB, .int .u64 fD, .int .u64 eP, .bool fO, .slice (some rX) eY.length qN, .int .i64 iY] 33 (0, 0)) (by (with_reducible repeat (first | refine bZ ?_ _ | refine bQ ?_ | refine bG ?_ _)); exact bH.out)) : dF ≠ jS)); have n6_ := aC.mk ((by rw [hg]; exact Nat.ne_of_gt (gQ (g := dF) (o := .cells #[.slice dQ bF.length dR, .bool cO, .int .i64 cZ, .int .i64 dA, .int .i64 fB, .int .u64 fD, .int .u64 eP, .bool fO, .slice (some rX) eY.length qN, .int .i64 iY] 33 (0, 0)) (by (with_reducible repeat (first | refine bZ ?_ _ | refine bQ ?_ | refine bG ?_ _)); exact bH.out)) : jS ≠ dF)); clear bH; clear HB; have bH := n0_; have HB := n1_; have kQ := n2_; have qb8 := n3_; have KR := n4_; have gU := n5_; have qO := n6_; clear n0_ n1_ n2_ n3_ n4_ n5_ n6_; clear hb hbox hg; have qiK := qO.out; have qiL := gU.out; have qda : w23.cell? ⟨jS, 0, none⟩ = some (.int .u64 0) := (aH kQ.out 0).trans rfl; have qdb : w23.cell? ⟨jS, 1, none⟩ = some (.string (⟨#[]⟩ : ByteArray)) := (aH kQ.out 1).trans rfl; have qdc : w23.cell? ⟨jS, 2, none⟩ = some (.bool false) := (aH kQ.out 2).trans rfl; have qdd := aG kQ.out 0; have qde := aG kQ.out 1; have qdf := aG kQ.out 2; have qg6 : w23.cell? ⟨dF, 0, none⟩ = some (.slice dQ bF.length dR) := (aH bH.out 0).trans rfl; have qg7 : w23.cell? ⟨dF, 1, none⟩ = some (.bool cO) := (aH bH.out 1).trans rfl; have qg8 : w23.cell? ⟨dF, 2, none⟩ = some (.int .i64 cZ) := (aH bH.out 2).trans rfl; have qg9 : w23.cell? ⟨dF, 3, none⟩ = some (.int .i64 dA) := (aH bH.out 3).trans rfl; have qha : w23.cell? ⟨dF, 4, none⟩ = some (.int .i64 fB) := (aH bH.out 4).trans rfl; have qhb : w23.cell? ⟨dF, 5, none⟩ = some (.int .u64 fD) := (aH bH.out 5).trans rfl; have qhc : w23.cell? ⟨dF, 6, none⟩ = some (.int .u64 eP) := (aH bH.out 6).trans rfl; have qhd : w23.cell? ⟨dF, 7, none⟩ = some (.bool fO) := (aH bH.out 7).trans rfl; have qhe : w23.cell? ⟨dF, 8, none⟩ = some (.slice (some rX) eY.length qN) := (aH bH.out 8).trans rfl; have qhf : w23.cell? ⟨dF, 9, none⟩ = some (.int .i64 iY) := (aH bH.out 9).trans rfl; have qhg := aG bH.out 0; have qhh := aG bH.out 1; have qhi := aG bH.out 2; have qhj := aG bH.out 3; have qhk := aG bH.out 4; have qhl := aG bH.out 5; have qhm := aG bH.out 6; have qhn := aG bH.out 7; have qho := aG bH.out 8; have qhp := aG bH.out 9))
                      go_roundg k2
                      case measure => have := HJ1.out; have := HK2.out; omega
                      case rel => exact ⟨(decide (((iD eY gG).f0) < eP)), (IntKind.u64.wrap (((iD eY gG).f0) + 1)), (wrap64 (gG + 1)), (by first | rfl | (simp; done) | (simp [*]; done)), (by first | rfl | (simp; done) | (simp [*]; done)), (by first | rfl | (simp; done) | (simp [*]; done)), H', ⟨by have := HJ1.out; have := HK2.out; omega⟩, ⟨by (with_reducible repeat (first | refine bZ ?_ _ | refine bQ ?_ | refine bG ?_ _)); refine dI ?_ gU.out _; (with_reducible repeat (first | refine bZ ?_ _ | refine bQ ?_ | refine bG ?_ _)); refine dI ?_ gU.out _; (with_reducible repeat (first | refine bZ ?_ _ | refine bQ ?_ | refine bG ?_ _)); refine dI ?_ gU.out _; (with_reducible repeat (first | refine bZ ?_ _ | refine bQ ?_ | refine bG ?_ _)); exact bH.out⟩, ⟨by repeat (first | (with_reducible first | exact HB.out | apply aU | apply aT | apply aY | refine bK ?_ lG.out | refine bK ?_ KR.out) | exact HB.out)⟩⟩
                    · rw [if_neg c22] at H
                      have qfp : decide (I4 ≤ ((iD eY gG).f0)) = false := decide_eq_false c22
                      clear c22
                      have H' := aC.mk H
                      clear H
                      have BA : 0 ≤ (gG : Int) := of_decide_eq_true (by first | (with_reducible assumption) | assumption)
                      have BD : gG < (eY.length : Int) := of_decide_eq_true (by first | (with_reducible assumption) | assumption)
                      obtain ⟨rX, e197, kX, kY, kZ⟩ := OE X4.out gG BA BD
                      cases e197
                      replace kX := (HB.out.cell (World.block_lt_of_cell? w _ kX)).trans kX
                      replace kY := (HB.out.cell (World.block_lt_of_cell? w _ kY)).trans kY
                      replace kZ := (HB.out.cell (World.block_lt_of_cell? w _ kZ)).trans kZ
                      replace BA := eq_true BA
                      replace BD := eq_true BD
                      go_wp2_with (first | ((with_reducible refine aV (N := 6) rfl ?_); (try (refine sV (by rfl) ?_; dsimp only)); refine dL ?hg (N := 6) ?hd (cs := #[.int .u64 0, .string (⟨#[]⟩ : ByteArray), .bool false]) (t := 41) ?hr ?_; (case hd => rfl); (case hg => rfl); (case hr => first | (go_simp; done) | (go_simp; rfl)); intro jS hg w27 hbox hb; have n0_ := aC.mk (bJ (g := dF) (o := .cells #[.slice dQ bF.length dR, .bool cO, .int .i64 cZ, .int .i64 dA, .int .i64 fB, .int .u64 fD, .int .u64 eP, .bool fO, .slice (some rX) eY.length qN, .int .i64 iY] 33 (0, 0)) (by (with_reducible repeat (first | refine bZ ?_ _ | refine bQ ?_ | refine bG ?_ _)); exact bH.out) hb); have n1_ := aC.mk (bD (by repeat (first | (with_reducible first | exact HB.out | apply aU | apply aT | apply aY | refine bK ?_ lG.out) | exact HB.out)) hb); have n2_ := aC.mk (hbox); have n3_ := aC.mk ((by rw [hg]; exact (dU (by repeat (first | (with_reducible first | exact HB.out | apply aU | apply aT | apply aY | refine bK ?_ lG.out) | exact HB.out))) : w.heap.size ≤ jS)); have n4_ := aC.mk ((by rw [hg]; exact (dU (by repeat (first | (with_reducible first | exact HB.out | apply aU | apply aT | apply aY | refine bK ?_ lG.out) | exact HB.out))) : w.heap.size ≤ jS)); have n5_ := aC.mk ((by rw [hg]; exact Nat.ne_of_lt (gQ (g := dF) (o := .cells #[.slice dQ bF.length dR, .bool cO, .int .i64 cZ, .int .i64 dA, .int .i64 fB, .int .u64 fD, .int .u64 eP, .bool fO, .slice (some rX) eY.length qN, .int .i64 iY] 33 (0, 0)) (by (with_reducible repeat (first | refine bZ ?_ _ | refine bQ ?_ | refine bG ?_ _)); exact bH.out)) : dF ≠ jS)); have n6_ := aC.mk ((by rw [hg]; exact Nat.ne_of_gt (gQ (g := dF) (o := .cells #[.slice dQ bF.length dR, .bool cO, .int .i64 cZ, .int .i64 dA, .int .i64 fB, .int .u64 fD, .int .u64 eP, .bool fO, .slice (some rX) eY.length qN, .int .i64 iY] 33 (0, 0)) (by (with_reducible repeat (first | refine bZ ?_ _ | refine bQ ?_ | refine bG ?_ _)); exact bH.out)) : jS ≠ dF)); clear bH; clear HB; have bH := n0_; have HB := n1_; have kQ := n2_; have qb8 := n3_; have KR := n4_; have gU := n5_; have qO := n6_; clear n0_ n1_ n2_ n3_ n4_ n5_ n6_; clear hb hbox hg; have qiM := qO.out; have qiN := gU.out; have qdg : w27.cell? ⟨jS, 0, none⟩ = some (.int .u64 0) := (aH kQ.out 0).trans rfl; have qdh : w27.cell? ⟨jS, 1, none⟩ = some (.string (⟨#[]⟩ : ByteArray)) := (aH kQ.out 1).trans rfl; have qdi : w27.cell? ⟨jS, 2, none⟩ = some (.bool false) := (aH kQ.out 2).trans rfl; have qdj := aG kQ.out 0; have qdk := aG kQ.out 1; have qdl := aG kQ.out 2))
                      go_roundg k2
                      case measure => have := HJ1.out; have := HK2.out; omega
                      case rel => exact ⟨(false), (IntKind.u64.wrap (((iD eY gG).f0) + 1)), (wrap64 (gG + 1)), (by first | rfl | (simp; done) | (simp [*]; done)), (by first | rfl | (simp; done) | (simp [*]; done)), (by first | rfl | (simp; done) | (simp [*]; done)), H', ⟨by have := HJ1.out; have := HK2.out; omega⟩, ⟨by (with_reducible repeat (first | refine bZ ?_ _ | refine bQ ?_ | refine bG ?_ _)); refine dI ?_ gU.out _; (with_reducible repeat (first | refine bZ ?_ _ | refine bQ ?_ | refine bG ?_ _)); refine dI ?_ gU.out _; (with_reducible repeat (first | refine bZ ?_ _ | refine bQ ?_ | refine bG ?_ _)); refine dI ?_ gU.out _; (with_reducible repeat (first | refine bZ ?_ _ | refine bQ ?_ | refine bG ?_ _)); exact bH.out⟩, ⟨by repeat (first | (with_reducible first | exact HB.out | apply aU | apply aT | apply aY | refine bK ?_ lG.out | refine bK ?_ KR.out) | exact HB.out)⟩⟩
                  · rw [if_neg c21] at H
                    have qfn : decide ((((iD eY gG).f1).size : Int) < 65536) = false := decide_eq_false c21
                    have qfo : decide (((iD eY gG).f1).size < 65536) = false := decide_eq_false (by omega)
                    clear c21
                    have H' := aC.mk H
                    clear H
                    have BA : 0 ≤ (gG : Int) := of_decide_eq_true (by first | (with_reducible assumption) | assumption)
                    have BD : gG < (eY.length : Int) := of_decide_eq_true (by first | (with_reducible assumption) | assumption)
                    obtain ⟨rX, e197, kX, kY, kZ⟩ := OE X4.out gG BA BD
                    cases e197
                    replace kX := (HB.out.cell (World.block_lt_of_cell? w _ kX)).trans kX
                    replace kY := (HB.out.cell (World.block_lt_of_cell? w _ kY)).trans kY
                    replace kZ := (HB.out.cell (World.block_lt_of_cell? w _ kZ)).trans kZ
                    replace BA := eq_true BA
                    replace BD := eq_true BD
                    go_wp2_with (first | ((with_reducible refine aV (N := 6) rfl ?_); (try (refine sV (by rfl) ?_; dsimp only)); refine dL ?hg (N := 6) ?hd (cs := #[.int .u64 0, .string (⟨#[]⟩ : ByteArray), .bool false]) (t := 41) ?hr ?_; (case hd => rfl); (case hg => rfl); (case hr => first | (go_simp; done) | (go_simp; rfl)); intro jS hg w30 hbox hb; have n0_ := aC.mk (bJ (g := dF) (o := .cells #[.slice dQ bF.length dR, .bool cO, .int .i64 cZ, .int .i64 dA, .int .i64 fB, .int .u64 fD, .int .u64 eP, .bool fO, .slice (some rX) eY.length qN, .int .i64 iY] 33 (0, 0)) (by (with_reducible repeat (first | refine bZ ?_ _ | refine bQ ?_ | refine bG ?_ _)); exact bH.out) hb); have n1_ := aC.mk (bD (by repeat (first | (with_reducible first | exact HB.out | apply aU | apply aT | apply aY | refine bK ?_ lG.out) | exact HB.out)) hb); have n2_ := aC.mk (hbox); have n3_ := aC.mk ((by rw [hg]; exact (dU (by repeat (first | (with_reducible first | exact HB.out | apply aU | apply aT | apply aY | refine bK ?_ lG.out) | exact HB.out))) : w.heap.size ≤ jS)); have n4_ := aC.mk ((by rw [hg]; exact (dU (by repeat (first | (with_reducible first | exact HB.out | apply aU | apply aT | apply aY | refine bK ?_ lG.out) | exact HB.out))) : w.heap.size ≤ jS)); have n5_ := aC.mk ((by rw [hg]; exact Nat.ne_of_lt (gQ (g := dF) (o := .cells #[.slice dQ bF.length dR, .bool cO, .int .i64 cZ, .int .i64 dA, .int .i64 fB, .int .u64 fD, .int .u64 eP, .bool fO, .slice (some rX) eY.length qN, .int .i64 iY] 33 (0, 0)) (by (with_reducible repeat (first | refine bZ ?_ _ | refine bQ ?_ | refine bG ?_ _)); exact bH.out)) : dF ≠ jS)); have n6_ := aC.mk ((by rw [hg]; exact Nat.ne_of_gt (gQ (g := dF) (o := .cells #[.slice dQ bF.length dR, .bool cO, .int .i64 cZ, .int .i64 dA, .int .i64 fB, .int .u64 fD, .int .u64 eP, .bool fO, .slice (some rX) eY.length qN, .int .i64 iY] 33 (0, 0)) (by (with_reducible repeat (first | refine bZ ?_ _ | refine bQ ?_ | refine bG ?_ _)); exact bH.out)) : jS ≠ dF)); clear bH; clear HB; have bH := n0_; have HB := n1_; have kQ := n2_; have qb8 := n3_; have KR := n4_; have gU := n5_; have qO := n6_; clear n0_ n1_ n2_ n3_ n4_ n5_ n6_; clear hb hbox hg; have qiO := qO.out; have qiP := gU.out; have qhq : w30.cell? ⟨jS, 0, none⟩ = some (.int .u64 0) := (aH kQ.out 0).trans rfl; have qhr : w30.cell? ⟨jS, 1, none⟩ = some (.string (⟨#[]⟩ : ByteArray)) := (aH kQ.out 1).trans rfl; have qhs : w30.cell? ⟨jS, 2, none⟩ = some (.bool false) := (aH kQ.out 2).trans rfl; have qht := aG kQ.out 0; have qhu := aG kQ.out 1; have qhv := aG kQ.out 2))
                    go_roundg k2
                    case measure => have := HJ1.out; have := HK2.out; omega
                    case rel => exact ⟨(false), (IntKind.u64.wrap (((iD eY gG).f0) + 1)), (wrap64 (gG + 1)), (by first | rfl | (simp; done) | (simp [*]; done)), (by first | rfl | (simp; done) | (simp [*]; done)), (by first | rfl | (simp; done) | (simp [*]; done)), H', ⟨by have := HJ1.out; have := HK2.out; omega⟩, ⟨by (with_reducible repeat (first | refine bZ ?_ _ | refine bQ ?_ | refine bG ?_ _)); refine dI ?_ gU.out _; (with_reducible repeat (first | refine bZ ?_ _ | refine bQ ?_ | refine bG ?_ _)); refine dI ?_ gU.out _; (with_reducible repeat (first | refine bZ ?_ _ | refine bQ ?_ | refine bG ?_ _)); refine dI ?_ gU.out _; (with_reducible repeat (first | refine bZ ?_ _ | refine bQ ?_ | refine bG ?_ _)); exact bH.out⟩, ⟨by repeat (first | (with_reducible first | exact HB.out | apply aU | apply aT | apply aY | refine bK ?_ lG.out | refine bK ?_ KR.out) | exact HB.out)⟩⟩
                · replace c20 := Bool.eq_false_iff.mpr c20
                  subst c20
                  have H1 : (bV.l0 k2 false (IntKind.u64.wrap (((iD eY gG).f0) + 1)) eY (eY.length : Int) (wrap64 (gG + 1)) bF cO cZ dA fB fD eP fO eY iY) = some r := by rw [if_neg (show ¬ (false = true) by decide)] at H; exact H
                  clear H
                  have H := H1
                  clear H1
                  have H' := aC.mk H
                  clear H
                  have BA : 0 ≤ (gG : Int) := of_decide_eq_true (by first | (with_reducible assumption) | assumption)
                  have BD : gG < (eY.length : Int) := of_decide_eq_true (by first | (with_reducible assumption) | assumption)
                  obtain ⟨rX, e197, kX, kY, kZ⟩ := OE X4.out gG BA BD
                  cases e197
                  replace kX := (HB.out.cell (World.block_lt_of_cell? w _ kX)).trans kX
                  replace kY := (HB.out.cell (World.block_lt_of_cell? w _ kY)).trans kY
                  replace kZ := (HB.out.cell (World.block_lt_of_cell? w _ kZ)).trans kZ
                  replace BA := eq_true BA
                  replace BD := eq_true BD
                  go_wp2_with (first | ((with_reducible refine aV (N := 6) rfl ?_); (try (refine sV (by rfl) ?_; dsimp only)); refine dL ?hg (N := 6) ?hd (cs := #[.int .u64 0, .string (⟨#[]⟩ : ByteArray), .bool false]) (t := 41) ?hr ?_; (case hd => rfl); (case hg => rfl); (case hr => first | (go_simp; done) | (go_simp; rfl)); intro jS hg w33 hbox hb; have n0_ := aC.mk (bJ (g := dF) (o := .cells #[.slice dQ bF.length dR, .bool cO, .int .i64 cZ, .int .i64 dA, .int .i64 fB, .int .u64 fD, .int .u64 eP, .bool fO, .slice (some rX) eY.length qN, .int .i64 iY] 33 (0, 0)) (by (with_reducible repeat (first | refine bZ ?_ _ | refine bQ ?_ | refine bG ?_ _)); exact bH.out) hb); have n1_ := aC.mk (bD (by repeat (first | (with_reducible first | exact HB.out | apply aU | apply aT | apply aY | refine bK ?_ lG.out) | exact HB.out)) hb); have n2_ := aC.mk (hbox); have n3_ := aC.mk ((by rw [hg]; exact (dU (by repeat (first | (with_reducible first | exact HB.out | apply aU | apply aT | apply aY | refine bK ?_ lG.out) | exact HB.out))) : w.heap.size ≤ jS)); have n4_ := aC.mk ((by rw [hg]; exact (dU (by repeat (first | (with_reducible first | exact HB.out | apply aU | apply aT | apply aY | refine bK ?_ lG.out) | exact HB.out))) : w.heap.size ≤ jS)); have n5_ := aC.mk ((by rw [hg]; exact Nat.ne_of_lt (gQ (g := dF) (o := .cells #[.slice dQ bF.length dR, .bool cO, .int .i64 cZ, .int .i64 dA, .int .i64 fB, .int .u64 fD, .int .u64 eP, .bool fO, .slice (some rX) eY.length qN, .int .i64 iY] 33 (0, 0)) (by (with_reducible repeat (first | refine bZ ?_ _ | refine bQ ?_ | refine bG ?_ _)); exact bH.out)) : dF ≠ jS)); have n6_ := aC.mk ((by rw [hg]; exact Nat.ne_of_gt (gQ (g := dF) (o := .cells #[.slice dQ bF.length dR, .bool cO, .int .i64 cZ, .int .i64 dA, .int .i64 fB, .int .u64 fD, .int .u64 eP, .bool fO, .slice (some rX) eY.length qN, .int .i64 iY] 33 (0, 0)) (by (with_reducible repeat (first | refine bZ ?_ _ | refine bQ ?_ | refine bG ?_ _)); exact bH.out)) : jS ≠ dF)); clear bH; clear HB; have bH := n0_; have HB := n1_; have kQ := n2_; have qb8 := n3_; have KR := n4_; have gU := n5_; have qO := n6_; clear n0_ n1_ n2_ n3_ n4_ n5_ n6_; clear hb hbox hg; have qiQ := qO.out; have qiR := gU.out; have qhw : w33.cell? ⟨jS, 0, none⟩ = some (.int .u64 0) := (aH kQ.out 0).trans rfl; have qhx : w33.cell? ⟨jS, 1, none⟩ = some (.string (⟨#[]⟩ : ByteArray)) := (aH kQ.out 1).trans rfl; have qhy : w33.cell? ⟨jS, 2, none⟩ = some (.bool false) := (aH kQ.out 2).trans rfl; have qhz := aG kQ.out 0; have qhA := aG kQ.out 1; have qhB := aG kQ.out 2))
                  go_roundg k2
                  case measure => have := HJ1.out; have := HK2.out; omega
                  case rel => exact ⟨(false), (IntKind.u64.wrap (((iD eY gG).f0) + 1)), (wrap64 (gG + 1)), (by first | rfl | (simp; done) | (simp [*]; done)), (by first | rfl | (simp; done) | (simp [*]; done)), (by first | rfl | (simp; done) | (simp [*]; done)), H', ⟨by have := HJ1.out; have := HK2.out; omega⟩, ⟨by (with_reducible repeat (first | refine bZ ?_ _ | refine bQ ?_ | refine bG ?_ _)); refine dI ?_ gU.out _; (with_reducible repeat (first | refine bZ ?_ _ | refine bQ ?_ | refine bG ?_ _)); refine dI ?_ gU.out _; (with_reducible repeat (first | refine bZ ?_ _ | refine bQ ?_ | refine bG ?_ _)); refine dI ?_ gU.out _; (with_reducible repeat (first | refine bZ ?_ _ | refine bQ ?_ | refine bG ?_ _)); exact bH.out⟩, ⟨by repeat (first | (with_reducible first | exact HB.out | apply aU | apply aT | apply aY | refine bK ?_ lG.out | refine bK ?_ KR.out) | exact HB.out)⟩⟩
              · rw [if_neg c19] at H
                exact absurd H (by simp)
            · rw [if_neg c18] at H
              exact absurd H (by simp)
          · rw [if_neg c17] at H
            have qfm : decide (gG < (eY.length : Int)) = false := decide_eq_false c17
            clear c17
            by_cases c36 : qb7 = true
            · subst c36
              have H1 : (some 0) = some r := by rw [if_pos rfl] at H; exact H
              clear H
              have H := H1
              clear H1
              obtain rfl := Option.some.inj H
              go_wp2
              go_ret
              exact ⟨by first | rfl | (simp [eG, eH] <;> rfl) | (simp [*, eG, eH] <;> rfl), by repeat (first | (with_reducible first | exact HB.out | apply aU | apply aT | apply aY | refine bK ?_ lG.out) | exact HB.out)⟩
            · replace c36 := Bool.eq_false_iff.mpr c36
              subst c36
              have H1 : (some 6) = some r := by rw [if_neg (show ¬ (false = true) by decide)] at H; exact H
              clear H
              have H := H1
              clear H1
              obtain rfl := Option.some.inj H
              go_wp2
              go_ret
              exact ⟨by first | rfl | (simp [eG, eH] <;> rfl) | (simp [*, eG, eH] <;> rfl), by repeat (first | (with_reducible first | exact HB.out | apply aU | apply aT | apply aY | refine bK ?_ lG.out) | exact HB.out)⟩
end Go.Proofs.U
