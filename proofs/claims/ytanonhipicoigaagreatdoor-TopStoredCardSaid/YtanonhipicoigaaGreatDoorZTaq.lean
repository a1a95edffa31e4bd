import Derived.Test.YtanonhipicoigaaGreatDoorZTap
import Derived.Test.YtanonhipicoigaaGreatDoorZTag
set_option linter.unusedVariables false
set_option linter.unusedSimpArgs false
set_option maxRecDepth 100000
namespace Go.Proofs.U
open Go.RowKit Go.Proofs.aA.aK Go.Proofs.aA.aW Go.Proofs.aA.aZ Go.Proofs.Sp Go.Proofs.dZ
def tX (nx : Int) : Int → List S41 → Prop
 | _, [] => True
 | least, e :: r => e.f1.size < 65536 ∧ least ≤ e.f0 ∧ e.f0 < nx ∧ tX nx (e.f0 + 1) r
def okQ (Q : Qu) : Prop := okL Q.L ∧ 1 ≤ Q.most ∧ Q.most ≤ 1024 ∧ Q.es.length ≤ 1024 ∧ tX Q.L.nx Q.L.fr Q.es
def Qz : Qu := ⟨Lz, [], 0⟩
theorem qb9 {l : List S41} {i : Nat} {x : S41} (hx : l[i]? = some x) : iD l (i : Int) = x := by
 simp [iD, List.getD, hx]
open Classical in
theorem KT (l : List S67) (dn : Bool) (fu fa size fr nx : Int) (br : Bool) (es : List S41) (most : Int) (hl : es.length ≤ 9223372036854775807) : ∀ (f i : Nat) (ok : Bool) (least : Int), i ≤ es.length → es.length - i < f → (ok = true → 0 ≤ least ∧ nx ≤ 4611686018427387904) →
    bV.l0 f ok least es (es.length : Int) (i : Int) l dn fu fa size fr nx br es most = some (if ok = true ∧ tX nx least (es.drop i) then 0 else 6)
  | 0, i, ok, least, hi, hf, hk => by omega
  | f + 1, i, ok, least, hi, hf, hk => by
    rw [bV.l0]
    by_cases h : i < es.length
    · obtain ⟨x, hx⟩ : ∃ x, es[i]? = some x := ⟨_, List.getElem?_eq_getElem h⟩
      have hd : es.drop i = x :: es.drop (i + 1) := by
        rw [List.drop_eq_getElem_cons h]
        congr 1
        rw [List.getElem?_eq_getElem h] at hx
        exact Option.some.inj hx
      rw [if_pos (by omega), if_pos (by omega), if_pos (by omega), qb9 hx, hd]
      have e : wrap64 ((i : Int) + 1) = ((i + 1 : Nat) : Int) := by
        unfold wrap64
        omega
      rw [e]
      have ih := fun ok least => KT l dn fu fa size fr nx br es most hl f (i + 1) ok least (by omega) (by omega)
      cases ok with
      | false =>
        rw [if_neg (by simp), ih false _ (fun h => by cases h), if_neg (by simp), if_neg (by simp)]
      | true =>
        obtain ⟨hk0, hk1⟩ := hk rfl
        rw [if_pos rfl]
        by_cases h1 : (x.f1.size : Int) < 65536
        · rw [if_pos h1]
          by_cases h2 : x.f0 ≥ least
          · rw [if_pos h2]
            by_cases h3 : x.f0 < nx
            · have ew : IntKind.u64.wrap (x.f0 + 1) = x.f0 + 1 := by
                rw [IntKind.wrap_u64]
                omega
              rw [ew, decide_eq_true h3, ih true _ (fun _ => ⟨by omega, hk1⟩)]
              congr 1
              by_cases h4 : tX nx (x.f0 + 1) (es.drop (i + 1))
              · rw [if_pos ⟨rfl, h4⟩, if_pos ⟨rfl, by omega, by omega, h3, h4⟩]
              · rw [if_neg (fun g => h4 g.2), if_neg (fun g => h4 g.2.2.2.2)]
            · rw [decide_eq_false h3, ih false _ (fun h => by cases h), if_neg (by simp), if_neg (fun g => h3 g.2.2.2.1)]
          · rw [if_neg h2, ih false _ (fun h => by cases h), if_neg (by simp), if_neg (fun g => h2 g.2.2.1)]
        · rw [if_neg h1, ih false _ (fun h => by cases h), if_neg (by simp), if_neg (fun g => h1 (by have := g.2.1; omega))]
    · rw [if_neg (by omega), List.drop_eq_nil_of_le (by omega)]
      cases ok
      · rfl
      · rw [if_pos rfl, if_pos ⟨rfl, trivial⟩]
open Classical in
theorem ZJ (Q : Qu) (h0 : 0 ≤ Q.L.fr) (hl : Q.es.length ≤ 9223372036854775807) :
    bV.f (Q.es.length + 3) Q.L.l Q.L.dn Q.L.fu Q.L.fa Q.L.size Q.L.fr Q.L.nx Q.L.br Q.es Q.most = some (if okQ Q then 0 else 6) := by
  obtain ⟨⟨l, dn, fu, fa, size, fr, nx, br⟩, es, most⟩ := Q
  simp only at h0 hl ⊢
  rw [bV.f]
  have hc := yJ ⟨l, dn, fu, fa, size, fr, nx, br⟩
  simp only at hc
  rw [hc, Option.bind_some]
  by_cases hL : okL ⟨l, dn, fu, fa, size, fr, nx, br⟩
  · rw [if_pos hL, if_pos rfl]
    have hnx : nx ≤ 4611686018427387904 := hL.2.2.2.2
    have hj : ∀ ok : Bool, bV.j0 (es.length + 3) ok l dn fu fa size fr nx br es most = some (if ok = true ∧ tX nx fr es then 0 else 6) := fun ok => by
      rw [bV.j0]
      have := KT l dn fu fa size fr nx br es most hl (es.length + 2) 0 ok fr (by omega) (by omega) (fun _ => ⟨h0, hnx⟩)
      rw [List.drop_zero] at this
      exact this
    by_cases hm : most ≥ 1
    · rw [if_pos hm, hj]
      congr 1
      by_cases hx : mx most (es.length : Int) ≤ 1024
      · rw [decide_eq_true hx]
        have h2 : most ≤ 1024 ∧ es.length ≤ 1024 := by
          unfold mx at hx
          split at hx <;> omega
        by_cases h3 : tX nx fr es
        · rw [if_pos ⟨rfl, h3⟩, if_pos ⟨hL, hm, h2.1, h2.2, h3⟩]
        · rw [if_neg (fun g => h3 g.2), if_neg (fun g => h3 g.2.2.2.2)]
      · rw [decide_eq_false hx, if_neg (by simp), if_neg (fun g => hx ?_)]
        have g1 := g.2.2.1
        have g2 := g.2.2.2.1
        simp only at g1 g2
        unfold mx
        split <;> omega
    · rw [if_neg hm, hj, if_neg (by simp), if_neg (fun g => hm g.2.1)]
  · rw [if_neg hL, if_neg (by decide)]
    rw [bV.j0]
    have := KT l dn fu fa size fr nx br es most hl (es.length + 2) 0 false fr (by omega) (by omega) (fun h => by cases h)
    simp only [Int.natCast_zero] at this ⊢
    rw [this, if_neg (by simp), if_neg (fun g => hL g.1)]
theorem yM {P : Program} {fn : Func} {R : Ending → World → Prop} {t t' : Array Value} (h : ∀ w, (results fn t).run P w = (results fn t').run P w) : ∀ (ds : List Deferred) (u : FrameMode) (w : World), Leaves P fn t R ds u w → Leaves P fn t' R ds u w
 | [], .returning, w, ⟨v, hv, hR⟩ => ⟨v, by rw [← h]; exact hv, hR⟩
 | [], .panicking _, w, hR => hR
 | [], .run, w, hR => hR
 | d :: ds, u, w, ⟨hu, fv, cap, f, args, h1, h2, h3⟩ => ⟨hu, fv, cap, f, args, h1, h2, h3.mono fun e u' w' hh => by
  cases e with
  | returned v => exact yM h ds _ _ hh
  | panicked c => exact yM h ds _ _ hh
  | outgrown => exact hh⟩
theorem kL {N : Tmp} {v : Value} {c : List PanicEntry} {a : Act} {w : World} {R : Ending → World → Prop} (h4 : N ≠ 4) (h5 : N ≠ 5) (h : Leaves Tryz.prog Tryz.f52 (a.put (some N) v).tmps R (a.put (some N) v).defers (.panicking c) w) :
  Leaves Tryz.prog Tryz.f52 a.tmps R a.defers (.panicking c) w := by
 refine yM (fun w => ?_) _ _ _ h
 have e4 : (a.tmps.setIfInBounds N v)[4]? = a.tmps[4]? := Array.getElem?_setIfInBounds_ne h4
 have e5 : (a.tmps.setIfInBounds N v)[5]? = a.tmps[5]? := Array.getElem?_setIfInBounds_ne h5
 simp [results, Tryz.results52, Act.put, e4, e5]
set_option maxHeartbeats 4000000 in
theorem TI (g2 g4 g5 : Nat) (w : World) :
  CallsD Tryz.prog 101 #[.pointer (some ⟨g2, 0, none⟩), .pointer (some ⟨g4, 0, none⟩), .pointer (some ⟨g5, 0, none⟩)] .returning w fun e u' w' => e = .returned (.tuple #[]) ∧ u' = .returning ∧ w' = w := by
 refine callsD_of_wpS Tryz.func101 rfl fun c₀ cs hu => ?_
 apply wpS_seq
 apply wpS_region
 simp [wpOpsS, go_sem, recoverD, hu, Tryz.ntmps101, Exit.thenS]
 apply wpS_seq
 apply wpS_region
 simp [wpOpsS, go_sem, recoverD, hu, Tryz.ntmps101, Exit.thenS]
 refine wpS_cond (t := false) (by simp [Act.eval, Array.replicate]) ?_
 simp only [Bool.false_eq_true, if_false]
 refine wpS_of_wp (wp_skip ?_)
 cases c₀
 simp_all [bodyPostS, results, Tryz.results101]
set_option maxHeartbeats 4000000 in
theorem vS {b w : World} {rs : List Res} (g2 g4 g5 gl : Nat) (x5 : Value) (A : Option Addr) (c : Nat) (B : Option Addr) (d : Nat) (Q : Qu) (n : Int) (older : List PanicEntry) (H0 : aC (Sep b w (box g5 [x5] 34 :: box g4 [.slice none 0 0, .bool false, .int .i64 0, .int .i64 0, .int .i64 0, .int .u64 0, .int .u64 0, .bool false, .slice none 0 0, .int .i64 0] 33 :: box g2 [.pointer (some ⟨gl, 0, none⟩)] 98 :: box gl (qc A c B d Q) 101 :: rs))) :
  CallsD Tryz.prog 101 #[.pointer (some ⟨g2, 0, none⟩), .pointer (some ⟨g4, 0, none⟩), .pointer (some ⟨g5, 0, none⟩)] (.panicking ({ v := .iface 34 (.int .i64 n), recovered := false } :: older)) w fun e u' w' => e = .returned (.tuple #[]) ∧ u' = .panicking ({ v := .iface 34 (.int .i64 n), recovered := true } :: older) ∧ aC (Sep b w' (box g5 [.int .i64 n] 34 :: box g4 (qc A c B d Q) 33 :: box g2 [.pointer (some ⟨gl, 0, none⟩)] 98 :: box gl (qc A c B d Q) 101 :: rs)) := by
 have H : aC (Sep b w (box g5 [x5] 34 :: box g4 [.slice none 0 0, .bool false, .int .i64 0, .int .i64 0, .int .i64 0, .int .u64 0, .int .u64 0, .bool false, .slice none 0 0, .int .i64 0] 33 :: box g2 [.pointer (some ⟨gl, 0, none⟩)] 98 :: box gl [.slice A Q.L.l.length c, .bool Q.L.dn, .int .i64 Q.L.fu, .int .i64 Q.L.fa, .int .i64 Q.L.size, .int .u64 Q.L.fr, .int .u64 Q.L.nx, .bool Q.L.br, .slice B Q.es.length d, .int .i64 Q.most] 101 :: rs)) := H0
 clear H0
 have c_5 := H.out.cell (g := g5) aQ
 have z_5 := H.out.frozen (g := g5) aQ
 have c_4 := H.out.cell (g := g4) mem1
 have z_4 := H.out.frozen (g := g4) mem1
 have c_2 := H.out.cell (g := g2) mem2
 have z_2 := H.out.frozen (g := g2) mem2
 have c_l := H.out.cell (g := gl) mem3
 have z_l := H.out.frozen (g := gl) mem3
 have hta : ∀ w, (Instr.typeAssert (.iface 34 (.int .i64 n)) 20 34 false).run Tryz.prog w = .ok (.int .i64 n) w := fun w => by simp [Instr.typeAssert, go_sem, Tryz.underlying34]
 have hne : ¬ g5 = g4 := (List.pairwise_cons.1 H.out.apart).1 _ (List.mem_cons_self ..) g5 rfl
 have hne2 : ¬ g4 = g5 := fun e => hne e.symm
 refine callsD_of_wpS Tryz.func101 rfl fun c₀ cs hu => ?_
 simp only [List.size_toArray, List.length_cons, List.length_nil, Tryz.ntmps101, Nat.reduceAdd, Nat.reduceSub, Array.replicate_succ, Array.replicate_zero, List.push_toArray, List.append_toArray, List.nil_append, List.cons_append]
 apply wpS_seq
 apply wpS_region
 simp [wpOpsS, go_sem, recoverD, hu, Tryz.ntmps101, Exit.thenS]
 apply wpS_seq
 apply wpS_region
 simp [wpOpsS, go_sem, recoverD, hu, Tryz.ntmps101, Exit.thenS]
 refine wpS_cond (t := true) (by simp [Act.eval, Array.replicate]) ?_
 simp only [if_true]
 refine wpS_of_wp ?_
 go_region
 have h9 : Sep b _ (box g5 [.int .i64 n] 34 :: box g4 [.slice A Q.L.l.length c, .bool Q.L.dn, .int .i64 Q.L.fu, .int .i64 Q.L.fa, .int .i64 Q.L.size, .int .u64 Q.L.fr, .int .u64 Q.L.nx, .bool Q.L.br, .slice B Q.es.length d, .int .i64 Q.most] 33 :: box g2 [.pointer (some ⟨gl, 0, none⟩)] 98 :: box gl [.slice A Q.L.l.length c, .bool Q.L.dn, .int .i64 Q.L.fu, .int .i64 Q.L.fa, .int .i64 Q.L.size, .int .u64 Q.L.fr, .int .u64 Q.L.nx, .bool Q.L.br, .slice B Q.es.length d, .int .i64 Q.most] 101 :: rs) := (Sep.drew (Sep.set0 (Sep.set1 (Sep.set1 (Sep.set1 (Sep.set1 (Sep.set1 (Sep.set1 (Sep.set1 (Sep.set1 (Sep.set1 (Sep.set1 H.out 0 (.slice A Q.L.l.length c) rfl) 1 (.bool Q.L.dn) rfl) 2 (.int .i64 Q.L.fu) rfl) 3 (.int .i64 Q.L.fa) rfl) 4 (.int .i64 Q.L.size) rfl) 5 (.int .u64 Q.L.fr) rfl) 6 (.int .u64 Q.L.nx) rfl) 7 (.bool Q.L.br) rfl) 8 (.slice B Q.es.length d) rfl) 9 (.int .i64 Q.most) rfl) 0 (.int .i64 n) rfl))
 cases c₀
 exact ⟨rfl, _, rfl, _, results_none rfl _ _ _, rfl, rfl, ⟨h9⟩⟩
def IB (b : World) (fdo : Nat) (lb : List Value) (Q : Qu) (rs rs' : List Res) (R : Qu) (n : Int) : Prop :=
 ∀ (gl : Nat) (A : Option Addr) (c : Nat) (B : Option Addr) (d : Nat) (w : World) (ts : List Res), aC (Sep b w (box gl (qc A c B d Q) 101 :: oO A c Q.L.l :: uG B d Q.es :: (rs ++ ts))) →
  Calls Tryz.prog fdo (.pointer (some ⟨gl, 0, none⟩) :: lb).toArray w fun e w' => Ends n e ∧ ∃ A' c' B' d', aC (Sep b w' (box gl (qc A' c' B' d' R) 101 :: oO A' c' R.L.l :: uG B' d' R.es :: (rs' ++ ts)))
set_option maxHeartbeats 8000000 in
theorem wR {b w : World} {rs rs' : List Res} {fdo : Nat} {lb : List Value} (A : Option Addr) (c : Nat) (B : Option Addr) (d : Nat) (Q : Qu) (R : Qu) (n : Int) (hr : Kd.C k67 b A Q.L.l.length Q.L.l) (hc : Q.L.l.length ≤ c) (hre : Kd.C k41 b B Q.es.length Q.es) (hce : Q.es.length ≤ d) (h0 : 0 ≤ Q.L.fr)
  (he : ∀ args w, (callFunc fdo args).run Tryz.prog w = .ok (.enter fdo args) w) (H0 : aC (Sep b w rs))
  (hdo : (¬ okQ Q ∧ R = Qz ∧ n = 6 ∧ rs' = rs) ∨ (okQ Q ∧ Q.L.br = true ∧ R = Q ∧ n = 6 ∧ rs' = rs) ∨ (okQ Q ∧ Q.L.br = false ∧ IB b fdo lb Q rs rs' R n)) :
  Calls Tryz.prog 52 #[.agg (qc A c B d Q).toArray, .func (.func fdo) #[] lb.toArray] w fun e w' => ∃ A' c' B' d', e = .returned (.tuple #[.agg (qc A' c' B' d' R).toArray, .int .i64 n]) ∧ aC (Sep b w' (oO A' c' R.L.l :: uG B' d' R.es :: rs')) := by
 have HRp := aC.mk hr
 have HCp := aC.mk hc
 have HRe := aC.mk hre
 have HCe := aC.mk hce
 have HF0 := aC.mk h0
 have HEL : aC (Q.es.length ≤ 9223372036854775807) := ⟨Kd.qbb hre⟩
 have hmf : ∀ (fn : Fn) (first cap : Array Value) (w : World), (Instr.makeFunc fn first cap).run Tryz.prog w = .ok (.func fn first cap) w := fun _ _ _ _ => rfl
 have H : aC (Sep b w rs) := H0
 have HDO := aC.mk hdo
 clear hr hc hre hce h0 H0 hdo
 simp only [qc, lgc, List.cons_append, List.nil_append]
 go_enter_defers Tryz.func52, Tryz.ntmps52
 go_wp2_with (first
 |((with_reducible refine aV (N := 2) rfl ?_);
   refine bP rfl H (cs := [.slice A Q.L.l.length c, .bool Q.L.dn, .int .i64 Q.L.fu, .int .i64 Q.L.fa, .int .i64 Q.L.size, .int .u64 Q.L.fr, .int .u64 Q.L.nx, .bool Q.L.br, .slice B Q.es.length d, .int .i64 Q.most]) (t := 33) ?hr ?_;
   (case hr => first | (go_simp; done) | (go_simp; rfl));
   intro gq wd1 n_;
   simp only [Act.put, zA, zZ, zS];
   clear H;
   have H := n_;
   clear n_;
   have c_q := H.out.cell (g := gq) aQ)
 |((with_reducible refine aV (N := 4) rfl ?_);
   refine bP rfl H (cs := [.slice none 0 0, .bool false, .int .i64 0, .int .i64 0, .int .i64 0, .int .u64 0, .int .u64 0, .bool false, .slice none 0 0, .int .i64 0]) (t := 33) ?hr ?_;
   (case hr => first | (go_simp; done) | (go_simp; rfl));
   intro g4 wd2 n_;
   simp only [Act.put, zA, zZ, zS];
   clear H c_q;
   have H := n_;
   clear n_;
   have c_4 := H.out.cell (g := g4) aQ;
   have c_q := H.out.cell (g := gq) mem1)
 |((with_reducible refine aV (N := 5) rfl ?_);
   refine bP rfl H (cs := [.int .i64 0]) (t := 34) ?hr ?_;
   (case hr => first | (go_simp; done) | (go_simp; rfl));
   intro g5 wd3 n_;
   simp only [Act.put, zA, zZ, zS];
   clear H c_4 c_q;
   have H := n_;
   clear n_;
   have c_5 := H.out.cell (g := g5) aQ;
   have c_4 := H.out.cell (g := g4) mem1;
   have c_q := H.out.cell (g := gq) mem2)
 |fail)
 by_cases hok : okQ Q
 ·
  refine ((bV.calls (Q.es.length + 3) A c Q.L.l Q.L.dn Q.L.fu Q.L.fa Q.L.size Q.L.fr Q.L.nx Q.L.br B d Q.es Q.most 0 _ (H.out.came HRp.out) HCp.out (H.out.came HRe.out) HCe.out (by have h := ZJ Q HF0.out HEL.out; rw [if_pos hok] at h; exact h)).mono ?_)
  rintro e wd4 ⟨rfl, hb_⟩
  have n_ : aC (Sep b wd4 (box g5 [.int .i64 0] 34 :: box g4 [.slice none 0 0, .bool false, .int .i64 0, .int .i64 0, .int .i64 0, .int .u64 0, .int .u64 0, .bool false, .slice none 0 0, .int .i64 0] 33 :: box gq [.slice A Q.L.l.length c, .bool Q.L.dn, .int .i64 Q.L.fu, .int .i64 Q.L.fa, .int .i64 Q.L.size, .int .u64 Q.L.fr, .int .u64 Q.L.nx, .bool Q.L.br, .slice B Q.es.length d, .int .i64 Q.most] 33 :: rs)) := ⟨H.out.step hb_⟩
  clear H c_5 c_4 c_q
  have H := n_
  clear n_
  have c_5 := H.out.cell (g := g5) aQ
  have c_4 := H.out.cell (g := g4) mem1
  have c_q := H.out.cell (g := gq) mem2
  clear hb_
  have hfl : Q.L.l.length ≤ 64 := lJ hok.1.1
  have hel : Q.es.length ≤ 1024 := hok.2.2.2.1
  have HFL := aC.mk hfl
  have qih := aC.mk hel
  have HOK := aC.mk hok
  clear hok hfl hel
  go_upto_region 4 with (first
 |((with_reducible refine aV (N := 13) rfl ?_);
   refine bP rfl H (cs := [.slice A Q.L.l.length c, .bool Q.L.dn, .int .i64 Q.L.fu, .int .i64 Q.L.fa, .int .i64 Q.L.size, .int .u64 Q.L.fr, .int .u64 Q.L.nx, .bool Q.L.br, .slice B Q.es.length d, .int .i64 Q.most]) (t := 101) ?hr ?_;
   (case hr => first | (go_simp; done) | (go_simp; rfl));
   intro gl wd5 n_;
   simp only [Act.put, zA, zZ, zS];
   clear H c_5 c_4 c_q;
   have H := n_;
   clear n_;
   have c_l := H.out.cell (g := gl) aQ;
   have c_5 := H.out.cell (g := g5) mem1;
   have c_4 := H.out.cell (g := g4) mem2;
   have c_q := H.out.cell (g := gq) mem3)
 |((with_reducible refine aV (N := 6) rfl ?_);
   refine bP rfl H (cs := [.pointer none]) (t := 98) ?hr ?_;
   (case hr => first | (go_simp; done) | (go_simp; rfl));
   intro gv wd6 n_;
   simp only [Act.put, zA, zZ, zS];
   clear H c_l c_5 c_4 c_q;
   have H := n_;
   clear n_;
   have c_v := H.out.cell (g := gv) aQ;
   have z_v := H.out.frozen (g := gv) aQ;
   have c_l := H.out.cell (g := gl) mem1;
   have c_5 := H.out.cell (g := g5) mem2;
   have c_4 := H.out.cell (g := g4) mem3;
   have c_q := H.out.cell (g := gq) dM)
 |((with_reducible refine aX (t := 98) (p := 6) rfl ?_);
   refine bM (rs1 := (box gv [.pointer (some ⟨gl, 0, none⟩)] 98 :: box gl [.slice A Q.L.l.length c, .bool Q.L.dn, .int .i64 Q.L.fu, .int .i64 Q.L.fa, .int .i64 Q.L.size, .int .u64 Q.L.fr, .int .u64 Q.L.nx, .bool Q.L.br, .slice B Q.es.length d, .int .i64 Q.most] 101 :: box g5 [.int .i64 0] 34 :: box g4 [.slice none 0 0, .bool false, .int .i64 0, .int .i64 0, .int .i64 0, .int .u64 0, .int .u64 0, .bool false, .slice none 0 0, .int .i64 0] 33 :: box gq [.slice A Q.L.l.length c, .bool Q.L.dn, .int .i64 Q.L.fu, .int .i64 Q.L.fa, .int .i64 Q.L.size, .int .u64 Q.L.fr, .int .u64 Q.L.nx, .bool Q.L.br, .slice B Q.es.length d, .int .i64 Q.most] 33 :: rs)) rfl (t := 98) (p := 6) rfl rfl ?hr (H1 := (Sep.set0 H.out 0 (.pointer (some ⟨gl, 0, none⟩)) rfl)) ?_;
   (case hr => first | (go_simp; done) | (go_simp; rfl));
   intro wd7 n_;
   clear H c_v z_v c_l c_5 c_4 c_q;
   have H := n_;
   clear n_;
   have c_v := H.out.cell (g := gv) aQ;
   have z_v := H.out.frozen (g := gv) aQ;
   have c_l := H.out.cell (g := gl) mem1;
   have c_5 := H.out.cell (g := g5) mem2;
   have c_4 := H.out.cell (g := g4) mem3;
   have c_q := H.out.cell (g := gq) dM)
 |fail)
  clear c_v z_v c_l c_5 c_4 c_q
  have c_v := H.out.cell (g := gv) aQ
  have c_l := H.out.cell (g := gl) mem1
  have z_l := H.out.frozen (g := gl) mem1
  have c_5 := H.out.cell (g := g5) mem2
  have c_4 := H.out.cell (g := g4) mem3
  have c_q := H.out.cell (g := gq) dM
  refine iI (n := 8) (S := fun w' => (∀ j : Nat, w'.cell? ⟨gv, j, none⟩ = [.pointer (some ⟨gl, 0, none⟩)][j]?) ∧ (∀ j : Nat, w'.cell? ⟨gq, j, none⟩ = [.slice A Q.L.l.length c, .bool Q.L.dn, .int .i64 Q.L.fu, .int .i64 Q.L.fa, .int .i64 Q.L.size, .int .u64 Q.L.fr, .int .u64 Q.L.nx, .bool Q.L.br, .slice B Q.es.length d, .int .i64 Q.most][j]?) ∧ (∀ j : Nat, w'.frozen? ⟨gl, j, none⟩ = false) ∧ Sp.Sep b w' (box gv [.pointer (some ⟨gl, 0, none⟩)] 98 :: box gl [.slice A Q.L.l.length c, .bool Q.L.dn, .int .i64 Q.L.fu, .int .i64 Q.L.fa, .int .i64 Q.L.size, .int .u64 Q.L.fr, .int .u64 Q.L.nx, .bool Q.L.br, .slice B Q.es.length d, .int .i64 Q.most] 101 :: box g5 [.int .i64 0] 34 :: box g4 [.slice none 0 0, .bool false, .int .i64 0, .int .i64 0, .int .i64 0, .int .u64 0, .int .u64 0, .bool false, .slice none 0 0, .int .i64 0] 33 :: box gq [.slice A Q.L.l.length c, .bool Q.L.dn, .int .i64 Q.L.fu, .int .i64 Q.L.fa, .int .i64 Q.L.size, .int .u64 Q.L.fr, .int .u64 Q.L.nx, .bool Q.L.br, .slice B Q.es.length d, .int .i64 Q.most] 33 :: rs)) (ds := [7]) #[false, false, false, false, false, false, false, false] (by kernel_rfl) rfl rfl ⟨(fun j => ((Sep.drew H.out)).cell (g := gv) aQ j), (fun j => ((Sep.drew H.out)).cell (g := gq) dM j), (fun j => ((Sep.drew H.out)).frozen (g := gl) mem1 j), (Sep.drew H.out)⟩ (fun hHeld => ?_)
  refine puS (i := 1) (N := some 15) (v := ?_) (a' := ?_) rfl rfl (by kernel_rfl) (fun _ _ _ h => kL (N := 15) (by decide) (by decide) h) (Or.inl ⟨by rfl, ?_⟩) ?_ ?_
  rotate_left
  ·intro w'
   go_simp
   with_reducible rfl
  rotate_left
  ·simp only [Act.put, zA, zZ, zS, aI, aJ]
   rfl
  refine tkS (i := 0) (N := some 14) (v := ?_) (a' := ?_) rfl rfl (by kernel_rfl) (fun _ _ _ h => kL (N := 14) (by decide) (by decide) h) (Or.inl ⟨by rfl, ?_⟩) hHeld ?_ ?_
  rotate_left
  ·rintro w' ⟨s0, s1, s2, s3⟩
   go_simp
   with_reducible rfl
  rotate_left
  ·simp only [Act.put, zA, zZ, zS, aI, aJ]
   rfl
  refine tkS (i := 2) (N := some 16) (v := ?_) (a' := ?_) rfl rfl (by kernel_rfl) (fun _ _ _ h => kL (N := 16) (by decide) (by decide) h) (Or.inl ⟨by rfl, ?_⟩) hHeld ?_ ?_
  rotate_left
  ·rintro w' ⟨s0, s1, s2, s3⟩
   go_simp
   with_reducible rfl
  rotate_left
  ·simp only [Act.put, zA, zZ, zS, aI, aJ]
   rfl
  refine onS (i := 3) (N := some 17) rfl rfl (by kernel_rfl) (by decide) (fun K hK => ?_)
  refine pV Tryz.func100 (by kernel_rfl) rfl #[.slice B Q.es.length d] (by rfl) rfl rfl (by simp only [List.map_toArray, List.map_cons, List.map_nil]; rfl) ?_
  with_reducible refine (qbY B d Q.es _ (Sep.came hHeld.2.2.2 HRe.out) HCe.out qih.out).mono ?_
  rintro e w5 ⟨Ae, ce, rfl, HJ⟩
  have HN := gX hHeld.2.2.2 HJ.out
  have f5 := fun j => HN.frozen (g := gl) mem2 j
  have k5 := fun j => HN.cell (g := gl) mem2 j
  refine ⟨_, rfl, ?_⟩
  refine hK.out _ _ ⟨(fun j => HN.cell (g := gv) mem1 j), (fun j => HN.cell (g := gq) eF j), f5, HN.dJ⟩ (fun hHeld => ?_)
  clear hK K
  refine fH (a' := ?_) ?_ ?_
  rotate_left
  ·show Act.put _ (some 17) _ = _
   simp only [Act.put, zA, zZ, zS, aI, aJ]
   rfl
  refine puS (i := 4) (N := some 18) (v := ?_) (a' := ?_) rfl rfl (by kernel_rfl) (fun _ _ _ h => kL (N := 18) (by decide) (by decide) h) (Or.inl ⟨by rfl, ?_⟩) ?_ ?_
  rotate_left
  ·intro w'
   go_simp
   with_reducible rfl
  rotate_left
  ·simp only [Act.put, zA, zZ, zS, aI, aJ]
   rfl
  refine puS (i := 5) (N := some 19) (v := ?_) (a' := ?_) rfl rfl (by kernel_rfl) (fun _ _ _ h => kL (N := 19) (by decide) (by decide) h) (Or.inl ⟨by rfl, ?_⟩) ?_ ?_
  rotate_left
  ·intro w'
   go_simp
   with_reducible rfl
  rotate_left
  ·simp only [Act.put, zA, zZ, zS, aI, aJ]
   rfl
  refine puS (i := 6) (N := some 20) (v := ?_) (a' := ?_) rfl rfl (by kernel_rfl) (fun _ _ _ h => kL (N := 20) (by decide) (by decide) h) (Or.inl ⟨by rfl, ?_⟩) ?_ ?_
  rotate_left
  ·intro w'
   go_simp
   with_reducible rfl
  rotate_left
  ·simp only [Act.put, zA, zZ, zS, aI, aJ]
   rfl
  refine laS (i := 7) (N := none) rfl rfl (by kernel_rfl) (by decide) (fun K hK => ?_)
  refine xO (w1 := ?_) (by rfl) rfl ?_ ?_
  rotate_left
  ·go_simp
   rfl
  refine hK.out _ _ ?_
  clear hK K
  refine jT (by kernel_rfl) ?_
  refine uI (rs := (row k41 41 (.slice Ae (Q.es).length ce) Q.es :: box gv [.pointer (some ⟨gl, 0, none⟩)] 98 :: box gl [.slice A Q.L.l.length c, .bool Q.L.dn, .int .i64 Q.L.fu, .int .i64 Q.L.fa, .int .i64 Q.L.size, .int .u64 Q.L.fr, .int .u64 Q.L.nx, .bool Q.L.br, .slice Ae Q.es.length ce, .int .i64 Q.most] 101 :: box g5 [.int .i64 0] 34 :: box g4 [.slice none 0 0, .bool false, .int .i64 0, .int .i64 0, .int .i64 0, .int .u64 0, .int .u64 0, .bool false, .slice none 0 0, .int .i64 0] 33 :: box gq [.slice A Q.L.l.length c, .bool Q.L.dn, .int .i64 Q.L.fu, .int .i64 Q.L.fa, .int .i64 Q.L.size, .int .u64 Q.L.fr, .int .u64 Q.L.nx, .bool Q.L.br, .slice B Q.es.length d, .int .i64 Q.most] 33 :: rs)) (Sep.set2 HN 8 (.slice Ae Q.es.length ce) rfl) ?_
  clear HN f5 k5 HJ
  intro wd8 n_
  clear H c_v c_l z_l c_5 c_4 c_q
  have H := n_
  clear n_
  have c_v := H.out.cell (g := gv) mem1
  have c_l := H.out.cell (g := gl) mem2
  have z_l := H.out.frozen (g := gl) mem2
  have c_5 := H.out.cell (g := g5) mem3
  have c_4 := H.out.cell (g := g4) dM
  have c_q := H.out.cell (g := gq) eF
  go_upto_region 5 with fail
  refine iI (n := 12) (S := fun w' => (∀ j : Nat, w'.cell? ⟨gv, j, none⟩ = [.pointer (some ⟨gl, 0, none⟩)][j]?) ∧ (∀ j : Nat, w'.cell? ⟨gq, j, none⟩ = [.slice A Q.L.l.length c, .bool Q.L.dn, .int .i64 Q.L.fu, .int .i64 Q.L.fa, .int .i64 Q.L.size, .int .u64 Q.L.fr, .int .u64 Q.L.nx, .bool Q.L.br, .slice B Q.es.length d, .int .i64 Q.most][j]?) ∧ (∀ j : Nat, w'.frozen? ⟨gl, j, none⟩ = false) ∧ Sp.Sep b w' (row k41 41 (.slice Ae (Q.es).length ce) Q.es :: box gv [.pointer (some ⟨gl, 0, none⟩)] 98 :: box gl [.slice A Q.L.l.length c, .bool Q.L.dn, .int .i64 Q.L.fu, .int .i64 Q.L.fa, .int .i64 Q.L.size, .int .u64 Q.L.fr, .int .u64 Q.L.nx, .bool Q.L.br, .slice Ae Q.es.length ce, .int .i64 Q.most] 101 :: box g5 [.int .i64 0] 34 :: box g4 [.slice none 0 0, .bool false, .int .i64 0, .int .i64 0, .int .i64 0, .int .u64 0, .int .u64 0, .bool false, .slice none 0 0, .int .i64 0] 33 :: box gq [.slice A Q.L.l.length c, .bool Q.L.dn, .int .i64 Q.L.fu, .int .i64 Q.L.fa, .int .i64 Q.L.size, .int .u64 Q.L.fr, .int .u64 Q.L.nx, .bool Q.L.br, .slice B Q.es.length d, .int .i64 Q.most] 33 :: rs)) (ds := [11]) #[false, false, false, false, false, false, false, false, false, false, false, false] (by kernel_rfl) rfl rfl ⟨(fun j => ((Sep.drew H.out)).cell (g := gv) mem1 j), (fun j => ((Sep.drew H.out)).cell (g := gq) eF j), (fun j => ((Sep.drew H.out)).frozen (g := gl) mem2 j), (Sep.drew H.out)⟩ (fun hHeld => ?_)
  refine puS (i := 1) (N := some 22) (v := ?_) (a' := ?_) rfl rfl (by kernel_rfl) (fun _ _ _ h => kL (N := 22) (by decide) (by decide) h) (Or.inl ⟨by rfl, ?_⟩) ?_ ?_
  rotate_left
  ·intro w'
   go_simp
   with_reducible rfl
  rotate_left
  ·simp only [Act.put, zA, zZ, zS, aI, aJ]
   rfl
  refine puS (i := 2) (N := some 23) (v := ?_) (a' := ?_) rfl rfl (by kernel_rfl) (fun _ _ _ h => kL (N := 23) (by decide) (by decide) h) (Or.inl ⟨by rfl, ?_⟩) ?_ ?_
  rotate_left
  ·intro w'
   go_simp
   with_reducible rfl
  rotate_left
  ·simp only [Act.put, zA, zZ, zS, aI, aJ]
   rfl
  refine puS (i := 3) (N := some 24) (v := ?_) (a' := ?_) rfl rfl (by kernel_rfl) (fun _ _ _ h => kL (N := 24) (by decide) (by decide) h) (Or.inl ⟨by rfl, ?_⟩) ?_ ?_
  rotate_left
  ·intro w'
   go_simp
   with_reducible rfl
  rotate_left
  ·simp only [Act.put, zA, zZ, zS, aI, aJ]
   rfl
  refine tkS (i := 0) (N := some 21) (v := ?_) (a' := ?_) rfl rfl (by kernel_rfl) (fun _ _ _ h => kL (N := 21) (by decide) (by decide) h) (Or.inl ⟨by rfl, ?_⟩) hHeld ?_ ?_
  rotate_left
  ·rintro w' ⟨s0, s1, s2, s3⟩
   go_simp
   with_reducible rfl
  rotate_left
  ·simp only [Act.put, zA, zZ, zS, aI, aJ]
   rfl
  refine tkS (i := 4) (N := some 25) (v := ?_) (a' := ?_) rfl rfl (by kernel_rfl) (fun _ _ _ h => kL (N := 25) (by decide) (by decide) h) (Or.inl ⟨by rfl, ?_⟩) hHeld ?_ ?_
  rotate_left
  ·rintro w' ⟨s0, s1, s2, s3⟩
   go_simp
   with_reducible rfl
  rotate_left
  ·simp only [Act.put, zA, zZ, zS, aI, aJ]
   rfl
  refine onS (i := 5) (N := some 26) rfl rfl (by kernel_rfl) (by decide) (fun K hK => ?_)
  refine pV Tryz.func63 (by kernel_rfl) rfl #[.slice A Q.L.l.length c] (by rfl) rfl rfl (by simp only [List.map_toArray, List.map_cons, List.map_nil]; rfl) ?_
  with_reducible refine (qbZ A c Q.L.l _ (Sep.came hHeld.2.2.2 HRp.out) HCp.out HFL.out).mono ?_
  rintro e w5 ⟨Af, cf, rfl, HJ⟩
  have HN := gX hHeld.2.2.2 HJ.out
  have f5 := fun j => HN.frozen (g := gl) mem3 j
  have k5 := fun j => HN.cell (g := gl) mem3 j
  refine ⟨_, rfl, ?_⟩
  refine hK.out _ _ ⟨(fun j => HN.cell (g := gv) mem2 j), (fun j => HN.cell (g := gq) rP j), f5, HN.dJ⟩ (fun hHeld => ?_)
  clear hK K
  refine fH (a' := ?_) ?_ ?_
  rotate_left
  ·show Act.put _ (some 26) _ = _
   simp only [Act.put, zA, zZ, zS, aI, aJ]
   rfl
  refine puS (i := 6) (N := some 27) (v := ?_) (a' := ?_) rfl rfl (by kernel_rfl) (fun _ _ _ h => kL (N := 27) (by decide) (by decide) h) (Or.inl ⟨by rfl, ?_⟩) ?_ ?_
  rotate_left
  ·intro w'
   go_simp
   with_reducible rfl
  rotate_left
  ·simp only [Act.put, zA, zZ, zS, aI, aJ]
   rfl
  refine puS (i := 7) (N := some 28) (v := ?_) (a' := ?_) rfl rfl (by kernel_rfl) (fun _ _ _ h => kL (N := 28) (by decide) (by decide) h) (Or.inl ⟨by rfl, ?_⟩) ?_ ?_
  rotate_left
  ·intro w'
   go_simp
   with_reducible rfl
  rotate_left
  ·simp only [Act.put, zA, zZ, zS, aI, aJ]
   rfl
  refine puS (i := 8) (N := some 29) (v := ?_) (a' := ?_) rfl rfl (by kernel_rfl) (fun _ _ _ h => kL (N := 29) (by decide) (by decide) h) (Or.inl ⟨by rfl, ?_⟩) ?_ ?_
  rotate_left
  ·intro w'
   go_simp
   with_reducible rfl
  rotate_left
  ·simp only [Act.put, zA, zZ, zS, aI, aJ]
   rfl
  refine puS (i := 9) (N := some 30) (v := ?_) (a' := ?_) rfl rfl (by kernel_rfl) (fun _ _ _ h => kL (N := 30) (by decide) (by decide) h) (Or.inl ⟨by rfl, ?_⟩) ?_ ?_
  rotate_left
  ·intro w'
   go_simp
   with_reducible rfl
  rotate_left
  ·simp only [Act.put, zA, zZ, zS, aI, aJ]
   rfl
  refine puS (i := 10) (N := some 31) (v := ?_) (a' := ?_) rfl rfl (by kernel_rfl) (fun _ _ _ h => kL (N := 31) (by decide) (by decide) h) (Or.inl ⟨by rfl, ?_⟩) ?_ ?_
  rotate_left
  ·intro w'
   go_simp
   with_reducible rfl
  rotate_left
  ·simp only [Act.put, zA, zZ, zS, aI, aJ]
   rfl
  refine laS (i := 11) (N := none) rfl rfl (by kernel_rfl) (by decide) (fun K hK => ?_)
  refine xO (w1 := ?_) (by rfl) rfl ?_ ?_
  rotate_left
  ·go_simp
   rfl
  refine hK.out _ _ ?_
  clear hK K
  refine jT (by kernel_rfl) ?_
  refine uI (rs := (row k67 67 (.slice Af (Q.L.l).length cf) Q.L.l :: row k41 41 (.slice Ae (Q.es).length ce) Q.es :: box gv [.pointer (some ⟨gl, 0, none⟩)] 98 :: box gl [.slice Af Q.L.l.length cf, .bool Q.L.dn, .int .i64 Q.L.fu, .int .i64 Q.L.fa, .int .i64 Q.L.size, .int .u64 Q.L.fr, .int .u64 Q.L.nx, .bool Q.L.br, .slice Ae Q.es.length ce, .int .i64 Q.most] 101 :: box g5 [.int .i64 0] 34 :: box g4 [.slice none 0 0, .bool false, .int .i64 0, .int .i64 0, .int .i64 0, .int .u64 0, .int .u64 0, .bool false, .slice none 0 0, .int .i64 0] 33 :: box gq [.slice A Q.L.l.length c, .bool Q.L.dn, .int .i64 Q.L.fu, .int .i64 Q.L.fa, .int .i64 Q.L.size, .int .u64 Q.L.fr, .int .u64 Q.L.nx, .bool Q.L.br, .slice B Q.es.length d, .int .i64 Q.most] 33 :: rs)) (Sep.eU HN 0 (.slice Af Q.L.l.length cf) rfl) ?_
  clear HN f5 k5 HJ
  intro wd9 n_
  clear H c_v c_l z_l c_5 c_4 c_q
  have H := n_
  clear n_
  have c_v := H.out.cell (g := gv) mem2
  have c_l := H.out.cell (g := gl) mem3
  have z_l := H.out.frozen (g := gl) mem3
  have c_5 := H.out.cell (g := g5) dM
  have c_4 := H.out.cell (g := g4) eF
  have c_q := H.out.cell (g := gq) rP
  clear c_v c_l z_l c_5 c_4 c_q
  have c_v := H.out.cell (g := gv) mem2
  have c_l := H.out.cell (g := gl) mem3
  have c_5 := H.out.cell (g := g5) dM
  have z_5 := H.out.frozen (g := g5) dM
  have c_4 := H.out.cell (g := g4) eF
  have z_4 := H.out.frozen (g := g4) eF
  have c_q := H.out.cell (g := gq) rP
  cases hbr : Q.L.br
  ·
   go_wp2_with fail
   refine (sN 6 _).mono ?_
   rintro e w_ ⟨rfl, rfl⟩
   go_wp2_with fail
   have hDO : IB b fdo lb Q rs rs' R n := by
    rcases HDO.out with h | h | h
    ·exact absurd HOK.out h.1
    ·rw [h.2.1] at hbr; cases hbr
    ·exact h.2.2
   refine (hDO gl Af cf Ae ce _ [box g5 [.int .i64 0] 34, box g4 [.slice none 0 0, .bool false, .int .i64 0, .int .i64 0, .int .i64 0, .int .u64 0, .int .u64 0, .bool false, .slice none 0 0, .int .i64 0] 33, box gv [.pointer (some ⟨gl, 0, none⟩)] 98, box gq [.slice A Q.L.l.length c, .bool Q.L.dn, .int .i64 Q.L.fu, .int .i64 Q.L.fa, .int .i64 Q.L.size, .int .u64 Q.L.fr, .int .u64 Q.L.nx, .bool Q.L.br, .slice B Q.es.length d, .int .i64 Q.most] 33] ⟨Sep.perm (Sep.qJ (Sep.qJ (Sep.iL (Sep.qJ (Sep.jQ (Sep.jK (Sep.jK H.out))))))) (List.perm_append_comm (l₁ := [box g5 [.int .i64 0] 34, box g4 [.slice none 0 0, .bool false, .int .i64 0, .int .i64 0, .int .i64 0, .int .u64 0, .int .u64 0, .bool false, .slice none 0 0, .int .i64 0] 33, box gv [.pointer (some ⟨gl, 0, none⟩)] 98, box gq [.slice A Q.L.l.length c, .bool Q.L.dn, .int .i64 Q.L.fu, .int .i64 Q.L.fa, .int .i64 Q.L.size, .int .u64 Q.L.fr, .int .u64 Q.L.nx, .bool Q.L.br, .slice B Q.es.length d, .int .i64 Q.most] 33]))⟩).mono ?_
   rintro e w2 ⟨hE, A', c', B', d', H2⟩
   clear c_v c_l c_5 z_5 c_4 z_4 c_q H
   have H : aC (Sep b w2 (box g5 [.int .i64 0] 34 :: box g4 [.slice none 0 0, .bool false, .int .i64 0, .int .i64 0, .int .i64 0, .int .u64 0, .int .u64 0, .bool false, .slice none 0 0, .int .i64 0] 33 :: box gv [.pointer (some ⟨gl, 0, none⟩)] 98 :: box gq [.slice A Q.L.l.length c, .bool Q.L.dn, .int .i64 Q.L.fu, .int .i64 Q.L.fa, .int .i64 Q.L.size, .int .u64 Q.L.fr, .int .u64 Q.L.nx, .bool Q.L.br, .slice B Q.es.length d, .int .i64 Q.most] 33 :: box gl [.slice A' R.L.l.length c', .bool R.L.dn, .int .i64 R.L.fu, .int .i64 R.L.fa, .int .i64 R.L.size, .int .u64 R.L.fr, .int .u64 R.L.nx, .bool R.L.br, .slice B' R.es.length d', .int .i64 R.most] 101 :: row k67 67 (.slice A' (R.L.l).length c') R.L.l :: row k41 41 (.slice B' (R.es).length d') R.es :: rs')) := ⟨H2.out.perm (List.perm_append_comm (l₁ := box gl (qc A' c' B' d' R) 101 :: oO A' c' R.L.l :: uG B' d' R.es :: rs'))⟩
   clear H2
   have c_5 := H.out.cell (g := g5) aQ
   have z_5 := H.out.frozen (g := g5) aQ
   have c_4 := H.out.cell (g := g4) mem1
   have z_4 := H.out.frozen (g := g4) mem1
   have c_v := H.out.cell (g := gv) mem2
   have c_q := H.out.cell (g := gq) mem3
   have c_l := H.out.cell (g := gl) dM
   rcases hE with ⟨rfl, rfl⟩ | ⟨hn, rfl⟩
   ·
    go_wp2_with (first
 |((with_reducible refine aX (t := 33) (p := 4) rfl ?_);
   refine bM (rs1 := (box g5 [.int .i64 0] 34 :: box g4 [.slice A' R.L.l.length c', .bool R.L.dn, .int .i64 R.L.fu, .int .i64 R.L.fa, .int .i64 R.L.size, .int .u64 R.L.fr, .int .u64 R.L.nx, .bool R.L.br, .slice B' R.es.length d', .int .i64 R.most] 33 :: box gv [.pointer (some ⟨gl, 0, none⟩)] 98 :: box gq [.slice A Q.L.l.length c, .bool Q.L.dn, .int .i64 Q.L.fu, .int .i64 Q.L.fa, .int .i64 Q.L.size, .int .u64 Q.L.fr, .int .u64 Q.L.nx, .bool Q.L.br, .slice B Q.es.length d, .int .i64 Q.most] 33 :: box gl [.slice A' R.L.l.length c', .bool R.L.dn, .int .i64 R.L.fu, .int .i64 R.L.fa, .int .i64 R.L.size, .int .u64 R.L.fr, .int .u64 R.L.nx, .bool R.L.br, .slice B' R.es.length d', .int .i64 R.most] 101 :: row k67 67 (.slice A' (R.L.l).length c') R.L.l :: row k41 41 (.slice B' (R.es).length d') R.es :: rs')) rfl (t := 33) (p := 4) rfl rfl ?hr (H1 := (Sep.set1 (Sep.set1 (Sep.set1 (Sep.set1 (Sep.set1 (Sep.set1 (Sep.set1 (Sep.set1 (Sep.set1 (Sep.set1 H.out 0 (.slice A' R.L.l.length c') rfl) 1 (.bool R.L.dn) rfl) 2 (.int .i64 R.L.fu) rfl) 3 (.int .i64 R.L.fa) rfl) 4 (.int .i64 R.L.size) rfl) 5 (.int .u64 R.L.fr) rfl) 6 (.int .u64 R.L.nx) rfl) 7 (.bool R.L.br) rfl) 8 (.slice B' R.es.length d') rfl) 9 (.int .i64 R.most) rfl)) ?_;
   (case hr => first | (go_simp; done) | (go_simp; rfl));
   intro FN n_;
   clear H c_5 z_5 c_4 z_4 c_v c_q c_l;
   have H := n_;
   clear n_;
   have c_5 := H.out.cell (g := g5) aQ;
   have z_5 := H.out.frozen (g := g5) aQ;
   have c_4 := H.out.cell (g := g4) mem1;
   have z_4 := H.out.frozen (g := g4) mem1;
   have c_v := H.out.cell (g := gv) mem2;
   have c_q := H.out.cell (g := gq) mem3;
   have c_l := H.out.cell (g := gl) dM)
 |((with_reducible refine aX (t := 34) (p := 5) rfl ?_);
   refine bM (rs1 := (box g5 [.int .i64 0] 34 :: box g4 [.slice A' R.L.l.length c', .bool R.L.dn, .int .i64 R.L.fu, .int .i64 R.L.fa, .int .i64 R.L.size, .int .u64 R.L.fr, .int .u64 R.L.nx, .bool R.L.br, .slice B' R.es.length d', .int .i64 R.most] 33 :: box gv [.pointer (some ⟨gl, 0, none⟩)] 98 :: box gq [.slice A Q.L.l.length c, .bool Q.L.dn, .int .i64 Q.L.fu, .int .i64 Q.L.fa, .int .i64 Q.L.size, .int .u64 Q.L.fr, .int .u64 Q.L.nx, .bool Q.L.br, .slice B Q.es.length d, .int .i64 Q.most] 33 :: box gl [.slice A' R.L.l.length c', .bool R.L.dn, .int .i64 R.L.fu, .int .i64 R.L.fa, .int .i64 R.L.size, .int .u64 R.L.fr, .int .u64 R.L.nx, .bool R.L.br, .slice B' R.es.length d', .int .i64 R.most] 101 :: row k67 67 (.slice A' (R.L.l).length c') R.L.l :: row k41 41 (.slice B' (R.es).length d') R.es :: rs')) rfl (t := 34) (p := 5) rfl rfl ?hr (H1 := (Sep.set0 H.out 0 (.int .i64 0) rfl)) ?_;
   (case hr => first | (go_simp; done) | (go_simp; rfl));
   intro OU n_;
   clear H c_5 z_5 c_4 z_4 c_v c_q c_l;
   have H := n_;
   clear n_;
   have c_5 := H.out.cell (g := g5) aQ;
   have z_5 := H.out.frozen (g := g5) aQ;
   have c_4 := H.out.cell (g := g4) mem1;
   have z_4 := H.out.frozen (g := g4) mem1;
   have c_v := H.out.cell (g := gv) mem2;
   have c_q := H.out.cell (g := gq) mem3;
   have c_l := H.out.cell (g := gl) dM)
 |fail)
    refine leaves_cons (f := 101) (args := #[.pointer (some ⟨gv, 0, none⟩), .pointer (some ⟨g4, 0, none⟩), .pointer (some ⟨g5, 0, none⟩)]) (by simp) (by simp [go_sem]) ?_
    refine (TI gv g4 g5 _).mono ?_
    rintro e u' w'' ⟨rfl, rfl, rfl⟩
    clear c_5
    have c_5 := H.out.cell (g := g5) aQ
    (try simp only [Leaves, settle])
    exact ⟨_, qM (fn := Tryz.f52) rfl _ _ g4 33 _ _ _ g5 _ rfl (H.out.lD (g := g4) mem1) Tryz.underlying33 rfl info33 rfl (AY c_5), A', c', B', d', rfl, ⟨(Sep.dJ (Sep.drop1 (Sep.drop2 (Sep.jU (Sep.oK H.out)))))⟩⟩
   ·
    go_wp2_with fail
    refine leaves_cons (f := 101) (args := #[.pointer (some ⟨gv, 0, none⟩), .pointer (some ⟨g4, 0, none⟩), .pointer (some ⟨g5, 0, none⟩)]) (by simp) (by simp [go_sem]) ?_
    have H8 : aC (Sep b _ (box g5 [.int .i64 0] 34 :: box g4 [.slice none 0 0, .bool false, .int .i64 0, .int .i64 0, .int .i64 0, .int .u64 0, .int .u64 0, .bool false, .slice none 0 0, .int .i64 0] 33 :: box gv [.pointer (some ⟨gl, 0, none⟩)] 98 :: box gl [.slice A' R.L.l.length c', .bool R.L.dn, .int .i64 R.L.fu, .int .i64 R.L.fa, .int .i64 R.L.size, .int .u64 R.L.fr, .int .u64 R.L.nx, .bool R.L.br, .slice B' R.es.length d', .int .i64 R.most] 101 :: box gq [.slice A Q.L.l.length c, .bool Q.L.dn, .int .i64 Q.L.fu, .int .i64 Q.L.fa, .int .i64 Q.L.size, .int .u64 Q.L.fr, .int .u64 Q.L.nx, .bool Q.L.br, .slice B Q.es.length d, .int .i64 Q.most] 33 :: row k67 67 (.slice A' (R.L.l).length c') R.L.l :: row k41 41 (.slice B' (R.es).length d') R.es :: rs')) := ⟨(Sep.qJ (Sep.qJ (Sep.qJ (Sep.qJ (Sep.sW (Sep.qJ (Sep.qJ H.out)))))))⟩
    refine (vS gv g4 g5 gl _ A' c' B' d' R n _ H8).mono ?_
    rintro e u' w'' ⟨rfl, rfl, H9⟩
    clear H8 H c_5 z_5 c_4 z_4 c_v c_q c_l
    have H := H9
    have c_5 := H.out.cell (g := g5) aQ
    (try simp only [Leaves, settle])
    exact ⟨_, qM (fn := Tryz.f52) rfl _ _ g4 33 _ _ _ g5 _ rfl (H.out.lD (g := g4) mem1) Tryz.underlying33 rfl info33 rfl (AY c_5), A', c', B', d', rfl, ⟨(Sep.dJ (Sep.drop1 (Sep.drop2 (Sep.jU (Sep.oK H.out)))))⟩⟩
  ·
   obtain ⟨hR, hn6, hrs⟩ : R = Q ∧ n = 6 ∧ rs' = rs := by
    rcases HDO.out with h | h | h
    ·exact absurd HOK.out h.1
    ·exact ⟨h.2.2.1, h.2.2.2.1, h.2.2.2.2⟩
    ·rw [h.2.1] at hbr; cases hbr
   subst hR hn6 hrs
   go_wp2_with fail
   refine (vP 6 _).mono ?_
   rintro e w_ ⟨rfl, rfl⟩
   try go_wp2_with fail
   refine leaves_cons (f := 101) (args := #[.pointer (some ⟨gv, 0, none⟩), .pointer (some ⟨g4, 0, none⟩), .pointer (some ⟨g5, 0, none⟩)]) (by simp) (by simp [go_sem]) ?_
   have H8 : aC (Sep b _ (box g5 [.int .i64 0] 34 :: box g4 [.slice none 0 0, .bool false, .int .i64 0, .int .i64 0, .int .i64 0, .int .u64 0, .int .u64 0, .bool false, .slice none 0 0, .int .i64 0] 33 :: box gv [.pointer (some ⟨gl, 0, none⟩)] 98 :: box gl [.slice Af R.L.l.length cf, .bool R.L.dn, .int .i64 R.L.fu, .int .i64 R.L.fa, .int .i64 R.L.size, .int .u64 R.L.fr, .int .u64 R.L.nx, .bool R.L.br, .slice Ae R.es.length ce, .int .i64 R.most] 101 :: row k67 67 (.slice Af (R.L.l).length cf) R.L.l :: row k41 41 (.slice Ae (R.es).length ce) R.es :: box gq [.slice A R.L.l.length c, .bool R.L.dn, .int .i64 R.L.fu, .int .i64 R.L.fa, .int .i64 R.L.size, .int .u64 R.L.fr, .int .u64 R.L.nx, .bool R.L.br, .slice B R.es.length d, .int .i64 R.most] 33 :: rs')) := ⟨(Sep.qJ (Sep.qJ (Sep.iL (Sep.iL (Sep.gY (Sep.gY (Sep.qJ H.out)))))))⟩
   refine (vS gv g4 g5 gl _ Af cf Ae ce R 6 _ H8).mono ?_
   rintro e u' w'' ⟨rfl, rfl, H9⟩
   clear H8 H c_v c_l c_5 z_5 c_4 z_4 c_q
   have H := H9
   have c_5 := H.out.cell (g := g5) aQ
   (try simp only [Leaves, settle])
   exact ⟨_, qM (fn := Tryz.f52) rfl _ _ g4 33 _ _ _ g5 _ rfl (H.out.lD (g := g4) mem1) Tryz.underlying33 rfl info33 rfl (AY c_5), Af, cf, Ae, ce, rfl, ⟨(Sep.dJ (Sep.drop1 (Sep.drop2 (Sep.jU (Sep.XB H.out)))))⟩⟩
 ·
  obtain ⟨hR, hn6, hrs⟩ : R = Qz ∧ n = 6 ∧ rs' = rs := by
   rcases HDO.out with h | h | h
   ·exact h.2
   ·exact absurd h.1 hok
   ·exact absurd h.1 hok
  subst hR hn6 hrs
  refine ((bV.calls (Q.es.length + 3) A c Q.L.l Q.L.dn Q.L.fu Q.L.fa Q.L.size Q.L.fr Q.L.nx Q.L.br B d Q.es Q.most 6 _ (H.out.came HRp.out) HCp.out (H.out.came HRe.out) HCe.out (by have h := ZJ Q HF0.out HEL.out; rw [if_neg hok] at h; exact h)).mono ?_)
  rintro e FP ⟨rfl, hb_⟩
  have n_ : aC (Sep b FP (box g5 [.int .i64 0] 34 :: box g4 [.slice none 0 0, .bool false, .int .i64 0, .int .i64 0, .int .i64 0, .int .u64 0, .int .u64 0, .bool false, .slice none 0 0, .int .i64 0] 33 :: box gq [.slice A Q.L.l.length c, .bool Q.L.dn, .int .i64 Q.L.fu, .int .i64 Q.L.fa, .int .i64 Q.L.size, .int .u64 Q.L.fr, .int .u64 Q.L.nx, .bool Q.L.br, .slice B Q.es.length d, .int .i64 Q.most] 33 :: rs')) := ⟨H.out.step hb_⟩
  clear H c_5 c_4 c_q
  have H := n_
  clear n_
  have c_5 := H.out.cell (g := g5) aQ
  have c_4 := H.out.cell (g := g4) mem1
  have c_q := H.out.cell (g := gq) mem2
  clear hb_
  clear c_5 c_4 c_q
  have c_5 := H.out.cell (g := g5) aQ
  have z_5 := H.out.frozen (g := g5) aQ
  have c_4 := H.out.cell (g := g4) mem1
  have z_4 := H.out.frozen (g := g4) mem1
  have c_q := H.out.cell (g := gq) mem2
  go_wp2_with (first
 |((with_reducible refine aX (t := 33) (p := 4) rfl ?_);
   refine bM (rs1 := (box g5 [.int .i64 0] 34 :: box g4 [.slice none 0 0, .bool false, .int .i64 0, .int .i64 0, .int .i64 0, .int .u64 0, .int .u64 0, .bool false, .slice none 0 0, .int .i64 0] 33 :: box gq [.slice A Q.L.l.length c, .bool Q.L.dn, .int .i64 Q.L.fu, .int .i64 Q.L.fa, .int .i64 Q.L.size, .int .u64 Q.L.fr, .int .u64 Q.L.nx, .bool Q.L.br, .slice B Q.es.length d, .int .i64 Q.most] 33 :: rs')) rfl (t := 33) (p := 4) rfl rfl ?hr (H1 := (Sep.set1 (Sep.set1 (Sep.set1 (Sep.set1 (Sep.set1 (Sep.set1 (Sep.set1 (Sep.set1 (Sep.set1 (Sep.set1 H.out 0 (.slice none 0 0) rfl) 1 (.bool false) rfl) 2 (.int .i64 0) rfl) 3 (.int .i64 0) rfl) 4 (.int .i64 0) rfl) 5 (.int .u64 0) rfl) 6 (.int .u64 0) rfl) 7 (.bool false) rfl) 8 (.slice none 0 0) rfl) 9 (.int .i64 0) rfl)) ?_;
   (case hr => first | (go_simp; done) | (go_simp; rfl));
   intro SX n_;
   clear H c_5 z_5 c_4 z_4 c_q;
   have H := n_;
   clear n_;
   have c_5 := H.out.cell (g := g5) aQ;
   have z_5 := H.out.frozen (g := g5) aQ;
   have c_4 := H.out.cell (g := g4) mem1;
   have z_4 := H.out.frozen (g := g4) mem1;
   have c_q := H.out.cell (g := gq) mem2)
 |((with_reducible refine aX (t := 34) (p := 5) rfl ?_);
   refine bM (rs1 := (box g5 [.int .i64 6] 34 :: box g4 [.slice none 0 0, .bool false, .int .i64 0, .int .i64 0, .int .i64 0, .int .u64 0, .int .u64 0, .bool false, .slice none 0 0, .int .i64 0] 33 :: box gq [.slice A Q.L.l.length c, .bool Q.L.dn, .int .i64 Q.L.fu, .int .i64 Q.L.fa, .int .i64 Q.L.size, .int .u64 Q.L.fr, .int .u64 Q.L.nx, .bool Q.L.br, .slice B Q.es.length d, .int .i64 Q.most] 33 :: rs')) rfl (t := 34) (p := 5) rfl rfl ?hr (H1 := (Sep.set0 H.out 0 (.int .i64 6) rfl)) ?_;
   (case hr => first | (go_simp; done) | (go_simp; rfl));
   intro qav n_;
   clear H c_5 z_5 c_4 z_4 c_q;
   have H := n_;
   clear n_;
   have c_5 := H.out.cell (g := g5) aQ;
   have z_5 := H.out.frozen (g := g5) aQ;
   have c_4 := H.out.cell (g := g4) mem1;
   have z_4 := H.out.frozen (g := g4) mem1;
   have c_q := H.out.cell (g := gq) mem2)
 |fail)
  have H2 := Sep.eX (d := k67) (e := 67) (Sep.eX (d := k41) (e := 41) (Sep.dJ (Sep.drop1 (Sep.drop2 H.out))))
  clear c_5
  have c_5 := H.out.cell (g := g5) aQ
  (try simp only [Leaves, settle])
  exact ⟨_, qM (fn := Tryz.f52) rfl _ _ g4 33 _ _ _ g5 _ rfl (H.out.lD (g := g4) mem1) Tryz.underlying33 rfl info33 rfl (AY c_5), none, 0, none, 0, rfl, ⟨H2⟩⟩
end Go.Proofs.U
namespace Go.Proofs.U
open Go.Proofs.UE (oG sO)
open Go.RowKit Go.Proofs.aA.aK Go.Proofs.aA.aW Go.Proofs.aA.aZ Go.Proofs.Sp Go.Proofs.dZ
def P80 : ByteArray := ⟨#[80]⟩
noncomputable def BF (Q : Qu) (seq : Int) (data : ByteArray) : Qu × Int :=
 if (Q.es.length : Int) < Q.most then
  if data.size < 65536 then
     if (bT Q.L (P80 ++ data)).2 = 0 then (⟨(bT Q.L (P80 ++ data)).1, Q.es ++ [⟨seq, data, false⟩], Q.most⟩, 0)
     else (⟨(bT Q.L (P80 ++ data)).1, Q.es, Q.most⟩, (bT Q.L (P80 ++ data)).2)
  else (Q, 4)
 else (Q, 8)
def free (x : S41) : Bool := !x.f2
def JD (l : List S41) (i : Nat) : List S41 := match l[i]? with | some x => l.set i ⟨x.f0, x.f1, true⟩ | none => l
def qca (l : List S41) (i : Nat) : List S41 := match l[i]? with | some x => l.set i ⟨x.f0, x.f1, false⟩ | none => l
def qE (Q : Qu) : Qu × Int := match oQ free Q.es with
 | some i => (⟨Q.L, JD Q.es i, Q.most⟩, 0)
 | none => (Q, 7)
def uX (Q : Qu) : S41 := match oQ free Q.es with
 | some i => (match Q.es[i]? with | some x => ⟨x.f0, x.f1, true⟩ | none => z41)
 | none => z41
def KU (Q : Qu) (q : Int) : Qu × Int := match oQ (jL q) Q.es with
 | some i => (⟨Q.L, qca Q.es i, Q.most⟩, 0)
 | none => (Q, 19)
theorem yN {b : World} {fdo : Nat} {lb : List Value} {Q : Qu} {rs rs' : List Res} {R : Qu} {n : Int} (h : IB b fdo lb Q rs rs' R n) (more : List Res) : IB b fdo lb Q (rs ++ more) (rs' ++ more) R n := by
 intro gl A c B d w ts H
 rw [List.append_assoc] at H ⊢
 exact h gl A c B d w (more ++ ts) H
theorem ZK {w : World} {g : Nat} {n : Int} {s : ByteArray} {f : Bool} (h : ∀ j, w.cell? ⟨g, j, none⟩ = [.int .u64 n, .string s, .bool f][j]?) : Kd.C k41 w (some ⟨g, 0, none⟩) [(⟨n, s, f⟩ : S41)].length [⟨n, s, f⟩] := by
 refine ⟨rfl, by simp only [List.length_singleton]; omega, fun _ => ⟨_, rfl, fun j p hj => ?_⟩⟩
 have hj0 : j = 0 := by
  have := (List.getElem?_eq_some_iff.1 hj).1
  simpa using this
 subst hj0
 simp only [List.getElem?_cons_zero, Option.some.injEq] at hj
 subst hj
 refine ⟨_, rfl, qd7 w _, fun i u hu => ?_⟩
 rw [add_plain']
 have := h (0 + (0 * k41.sz + i))
 rw [show 0 + (0 * k41.sz + i) = i by omega] at this
 rw [show 0 + (0 * k41.sz + i) = i by omega, this]
 exact hu
set_option maxHeartbeats 8000000 in
theorem qeC (b : World) (Q : Qu) (gt gs : Nat) (seq : Int) (data : ByteArray) (hG : Gl b) (hnx : 0 ≤ Q.L.nx) (hnx2 : Q.L.nx < 18446744073709551616) (hel : Q.es.length ≤ 1024) : IB b 53 [.pointer (some ⟨gt, 0, none⟩), .pointer (some ⟨gs, 0, none⟩)] Q [box gt [.string data] 9, box gs [.int .u64 seq] 28] [box gt [.string data] 9, box gs [.int .u64 seq] 28] (BF Q seq data).1 (BF Q seq data).2 := by
 intro gl A c B d w ts H0
 have HG := aC.mk hG
 have HEL := aC.mk hel
 obtain ⟨R, hR⟩ : ∃ R, R = BF Q seq data := ⟨_, rfl⟩
 rw [← hR]
 have HR := aC.mk hR
 have HAP := aC.mk (fun A c w hr hc hG => KQ A c Q.L (P80 ++ data) w hr hc hG hnx hnx2)
 obtain ⟨L1, e1, hL1⟩ : ∃ L1 e1, bT Q.L (P80 ++ data) = (L1, e1) := ⟨_, _, rfl⟩
 rw [hL1] at HAP
 simp only [lgc] at HAP
 have HL1 := aC.mk hL1
 clear hR hG hL1 hnx hnx2 hel
 have H : aC (Sep b w (box gl [.slice A Q.L.l.length c, .bool Q.L.dn, .int .i64 Q.L.fu, .int .i64 Q.L.fa, .int .i64 Q.L.size, .int .u64 Q.L.fr, .int .u64 Q.L.nx, .bool Q.L.br, .slice B Q.es.length d, .int .i64 Q.most] 101 :: row k67 67 (.slice A (Q.L.l).length c) Q.L.l :: row k41 41 (.slice B (Q.es).length d) Q.es :: box gt [.string data] 9 :: box gs [.int .u64 seq] 28 :: ts)) := H0
 clear H0
 have c_l := H.out.cell (g := gl) aQ
 have c_t := H.out.cell (g := gt) mem3
 have c_s := H.out.cell (g := gs) dM
 go_enter Tryz.func53, Tryz.ntmps53
 by_cases hm : (Q.es.length : Int) < Q.most
 ·
  have q1 := decide_eq_true hm
  have HM := aC.mk hm
  clear hm
  go_upto_region 0 with fail
  refine iI (n := 13) (S := fun w' => (∀ j : Nat, w'.cell? ⟨gl, j, none⟩ = [.slice A Q.L.l.length c, .bool Q.L.dn, .int .i64 Q.L.fu, .int .i64 Q.L.fa, .int .i64 Q.L.size, .int .u64 Q.L.fr, .int .u64 Q.L.nx, .bool Q.L.br, .slice B Q.es.length d, .int .i64 Q.most][j]?) ∧ Sp.Sep b w' (box gl [.slice A Q.L.l.length c, .bool Q.L.dn, .int .i64 Q.L.fu, .int .i64 Q.L.fa, .int .i64 Q.L.size, .int .u64 Q.L.fr, .int .u64 Q.L.nx, .bool Q.L.br, .slice B Q.es.length d, .int .i64 Q.most] 101 :: row k67 67 (.slice A (Q.L.l).length c) Q.L.l :: row k41 41 (.slice B (Q.es).length d) Q.es :: box gt [.string data] 9 :: box gs [.int .u64 seq] 28 :: ts)) (ds := []) #[false, false, false, false, false, false, false, false, false, false, false, false, false] (by kernel_rfl) rfl rfl ⟨(fun j => ((Sep.drew H.out)).cell (g := gl) aQ j), (Sep.drew H.out)⟩ (fun hHeld => ?_)
  refine puS (i := 0) (N := some 4) (v := ?_) (a' := ?_) rfl rfl (by kernel_rfl) (fun _ _ _ h => h) (Or.inl ⟨by rfl, ?_⟩) ?_ ?_
  rotate_left
  ·intro w'
   go_simp
   with_reducible rfl
  rotate_left
  ·simp only [Act.put, zA, zZ, zS, aI, aJ]
   rfl
  refine puS (i := 1) (N := some 5) (v := ?_) (a' := ?_) rfl rfl (by kernel_rfl) (fun _ _ _ h => h) (Or.inl ⟨by rfl, ?_⟩) ?_ ?_
  rotate_left
  ·intro w'
   go_simp
   with_reducible rfl
  rotate_left
  ·simp only [Act.put, zA, zZ, zS, aI, aJ]
   rfl
  refine puS (i := 2) (N := some 6) (v := ?_) (a' := ?_) rfl rfl (by kernel_rfl) (fun _ _ _ h => h) (Or.inl ⟨by rfl, ?_⟩) ?_ ?_
  rotate_left
  ·intro w'
   go_simp
   with_reducible rfl
  rotate_left
  ·simp only [Act.put, zA, zZ, zS, aI, aJ]
   rfl
  refine puS (i := 3) (N := some 7) (v := ?_) (a' := ?_) rfl rfl (by kernel_rfl) (fun _ _ _ h => h) (Or.inl ⟨by rfl, ?_⟩) ?_ ?_
  rotate_left
  ·intro w'
   go_simp
   with_reducible rfl
  rotate_left
  ·simp only [Act.put, zA, zZ, zS, aI, aJ]
   rfl
  refine puS (i := 6) (N := some 10) (v := ?_) (a' := ?_) rfl rfl (by kernel_rfl) (fun _ _ _ h => h) (Or.inl ⟨by rfl, ?_⟩) ?_ ?_
  rotate_left
  ·intro w'
   go_simp
   with_reducible rfl
  rotate_left
  ·simp only [Act.put, zA, zZ, zS, aI, aJ]
   rfl
  refine puS (i := 7) (N := some 11) (v := ?_) (a' := ?_) rfl rfl (by kernel_rfl) (fun _ _ _ h => h) (Or.inl ⟨by rfl, ?_⟩) ?_ ?_
  rotate_left
  ·intro w'
   go_simp
   with_reducible rfl
  rotate_left
  ·simp only [Act.put, zA, zZ, zS, aI, aJ]
   rfl
  refine puS (i := 8) (N := some 12) (v := ?_) (a' := ?_) rfl rfl (by kernel_rfl) (fun _ _ _ h => h) (Or.inl ⟨by rfl, ?_⟩) ?_ ?_
  rotate_left
  ·intro w'
   go_simp
   with_reducible rfl
  rotate_left
  ·simp only [Act.put, zA, zZ, zS, aI, aJ]
   rfl
  refine puS (i := 9) (N := some 13) (v := ?_) (a' := ?_) rfl rfl (by kernel_rfl) (fun _ _ _ h => h) (Or.inl ⟨by rfl, ?_⟩) ?_ ?_
  rotate_left
  ·intro w'
   go_simp
   with_reducible rfl
  rotate_left
  ·simp only [Act.put, zA, zZ, zS, aI, aJ]
   rfl
  refine tkS (i := 4) (N := some 8) (v := ?_) (a' := ?_) rfl rfl (by kernel_rfl) (fun _ _ _ h => h) (Or.inl ⟨by rfl, ?_⟩) hHeld ?_ ?_
  rotate_left
  ·rintro w' ⟨s0, s1⟩
   go_simp
   with_reducible rfl
  rotate_left
  ·simp only [Act.put, zA, zZ, zS, aI, aJ]
   rfl
  refine puS (i := 5) (N := some 9) (v := ?_) (a' := ?_) rfl rfl (by kernel_rfl) (fun _ _ _ h => h) (Or.inl ⟨by rfl, ?_⟩) ?_ ?_
  rotate_left
  ·intro w'
   go_simp
   with_reducible rfl
  rotate_left
  ·simp only [Act.put, zA, zZ, zS, aI, aJ]
   rfl
  refine tkS (i := 10) (N := some 14) (v := ?_) (a' := ?_) rfl rfl (by kernel_rfl) (fun _ _ _ h => h) (Or.inl ⟨by rfl, ?_⟩) hHeld ?_ ?_
  rotate_left
  ·rintro w' ⟨s0, s1⟩
   go_simp
   with_reducible rfl
  rotate_left
  ·simp only [Act.put, zA, zZ, zS, aI, aJ]
   rfl
  refine puS (i := 11) (N := some 15) (v := ?_) (a' := ?_) rfl rfl (by kernel_rfl) (fun _ _ _ h => h) (Or.inl ⟨by rfl, ?_⟩) ?_ ?_
  rotate_left
  ·intro w'
   go_simp
   with_reducible rfl
  rotate_left
  ·simp only [Act.put, zA, zZ, zS, aI, aJ]
   rfl
  refine onS (i := 12) (N := some 16) rfl rfl (by kernel_rfl) (by decide) (fun K hK => ?_)
  refine pV Tryz.func54 (by kernel_rfl) rfl #[.bool true, .int .i64 8] (by rfl) rfl rfl (by simp only [List.map_toArray, List.map_cons, List.map_nil]; rfl) ?_
  with_reducible refine (sN 8 _).mono ?_
  rintro e w5 ⟨rfl, rfl⟩
  refine ⟨_, rfl, ?_⟩
  refine hK.out _ _ ⟨(fun j => (hHeld.2).cell (g := gl) aQ j), hHeld.2⟩ (fun hHeld => ?_)
  clear hK K
  refine fH (a' := ?_) ?_ ?_
  rotate_left
  ·show Act.put _ (some 16) _ = _
   simp only [Act.put, zA, zZ, zS, aI, aJ]
   rfl
  refine jT (by kernel_rfl) ?_
  refine uI (rs := (box gl [.slice A Q.L.l.length c, .bool Q.L.dn, .int .i64 Q.L.fu, .int .i64 Q.L.fa, .int .i64 Q.L.size, .int .u64 Q.L.fr, .int .u64 Q.L.nx, .bool Q.L.br, .slice B Q.es.length d, .int .i64 Q.most] 101 :: row k67 67 (.slice A (Q.L.l).length c) Q.L.l :: row k41 41 (.slice B (Q.es).length d) Q.es :: box gt [.string data] 9 :: box gs [.int .u64 seq] 28 :: ts)) (Sep.drew H.out) ?_
  clear q1
  intro wd1 n_
  clear H c_l c_t c_s
  have H := n_
  clear n_
  have c_l := H.out.cell (g := gl) aQ
  have c_t := H.out.cell (g := gt) mem3
  have c_s := H.out.cell (g := gs) dM
  by_cases hd : data.size < 65536
  ·
   have q1 : decide ((data.size : Int) < 65536) = true := decide_eq_true (by omega)
   have HD := aC.mk hd
   go_wp2_with fail
   try simp only [q1]
   refine (sN 4 _).mono ?_
   rintro e w_ ⟨rfl, rfl⟩
   have qi6 : ¬ 9223372036854775807 < 1 + data.size := by omega
   clear q1 hd
   go_upto_region 2 with fail
   refine iI (n := 12) (S := fun w' => (∀ j : Nat, w'.cell? ⟨gl, j, none⟩ = [.slice A Q.L.l.length c, .bool Q.L.dn, .int .i64 Q.L.fu, .int .i64 Q.L.fa, .int .i64 Q.L.size, .int .u64 Q.L.fr, .int .u64 Q.L.nx, .bool Q.L.br, .slice B Q.es.length d, .int .i64 Q.most][j]?) ∧ (∀ j : Nat, w'.cell? ⟨gt, j, none⟩ = [.string data][j]?) ∧ Sp.Sep b w' (box gl [.slice A Q.L.l.length c, .bool Q.L.dn, .int .i64 Q.L.fu, .int .i64 Q.L.fa, .int .i64 Q.L.size, .int .u64 Q.L.fr, .int .u64 Q.L.nx, .bool Q.L.br, .slice B Q.es.length d, .int .i64 Q.most] 101 :: row k67 67 (.slice A (Q.L.l).length c) Q.L.l :: row k41 41 (.slice B (Q.es).length d) Q.es :: box gt [.string data] 9 :: box gs [.int .u64 seq] 28 :: ts)) (ds := [11]) #[false, false, false, false, false, false, false, false, false, false, false, false] (by kernel_rfl) rfl rfl ⟨(fun j => ((Sep.drew H.out)).cell (g := gl) aQ j), (fun j => ((Sep.drew H.out)).cell (g := gt) mem3 j), (Sep.drew H.out)⟩ (fun hHeld => ?_)
   refine puS (i := 0) (N := some 21) (v := ?_) (a' := ?_) rfl rfl (by kernel_rfl) (fun _ _ _ h => h) (Or.inl ⟨by rfl, ?_⟩) ?_ ?_
   rotate_left
   ·intro w'
    go_simp
    with_reducible rfl
   rotate_left
   ·simp only [Act.put, zA, zZ, zS, aI, aJ]
    rfl
   refine puS (i := 1) (N := some 22) (v := ?_) (a' := ?_) rfl rfl (by kernel_rfl) (fun _ _ _ h => h) (Or.inl ⟨by rfl, ?_⟩) ?_ ?_
   rotate_left
   ·intro w'
    go_simp
    with_reducible rfl
   rotate_left
   ·simp only [Act.put, zA, zZ, zS, aI, aJ]
    rfl
   refine puS (i := 2) (N := some 23) (v := ?_) (a' := ?_) rfl rfl (by kernel_rfl) (fun _ _ _ h => h) (Or.inl ⟨by rfl, ?_⟩) ?_ ?_
   rotate_left
   ·intro w'
    go_simp
    with_reducible rfl
   rotate_left
   ·simp only [Act.put, zA, zZ, zS, aI, aJ]
    rfl
   refine puS (i := 3) (N := some 24) (v := ?_) (a' := ?_) rfl rfl (by kernel_rfl) (fun _ _ _ h => h) (Or.inl ⟨by rfl, ?_⟩) ?_ ?_
   rotate_left
   ·intro w'
    go_simp
    with_reducible rfl
   rotate_left
   ·simp only [Act.put, zA, zZ, zS, aI, aJ]
    rfl
   refine puS (i := 4) (N := some 25) (v := ?_) (a' := ?_) rfl rfl (by kernel_rfl) (fun _ _ _ h => h) (Or.inl ⟨by rfl, ?_⟩) ?_ ?_
   rotate_left
   ·intro w'
    go_simp
    with_reducible rfl
   rotate_left
   ·simp only [Act.put, zA, zZ, zS, aI, aJ]
    rfl
   refine tkS (i := 5) (N := some 26) (v := ?_) (a' := ?_) rfl rfl (by kernel_rfl) (fun _ _ _ h => h) (Or.inl ⟨by rfl, ?_⟩) hHeld ?_ ?_
   rotate_left
   ·rintro w' ⟨s0, s1, s2⟩
    go_simp
    with_reducible rfl
   rotate_left
   ·simp only [Act.put, zA, zZ, zS, aI, aJ]
    rfl
   refine tkS (i := 6) (N := some 27) (v := ?_) (a' := ?_) rfl rfl (by kernel_rfl) (fun _ _ _ h => h) (Or.inl ⟨by rfl, ?_⟩) hHeld ?_ ?_
   rotate_left
   ·rintro w' ⟨s0, s1, s2⟩
    go_simp
    with_reducible rfl
   rotate_left
   ·simp only [Act.put, zA, zZ, zS, aI, aJ]
    rfl
   refine puS (i := 7) (N := some 28) (v := ?_) (a' := ?_) rfl rfl (by kernel_rfl) (fun _ _ _ h => h) (Or.inl ⟨by rfl, ?_⟩) ?_ ?_
   rotate_left
   ·intro w'
    go_simp
    with_reducible rfl
   rotate_left
   ·simp only [Act.put, zA, zZ, zS, aI, aJ]
    rfl
   refine onS (i := 8) (N := some 29) rfl rfl (by kernel_rfl) (by decide) (fun K hK => ?_)
   refine pV Tryz.func31 (by kernel_rfl) rfl #[.agg #[.slice A Q.L.l.length c, .bool Q.L.dn, .int .i64 Q.L.fu, .int .i64 Q.L.fa, .int .i64 Q.L.size, .int .u64 Q.L.fr, .int .u64 Q.L.nx, .bool Q.L.br], .string (P80 ++ data)] (by rfl) rfl rfl (by simp only [List.map_toArray, List.map_cons, List.map_nil]; rfl) ?_
   with_reducible refine (HAP.out A c _ (Sep.reads hHeld.2.2 mem1).2.2 (Sep.reads hHeld.2.2 mem1).2.1 (HG.out.below (Sep.below hHeld.2.2))).mono ?_
   rintro e w5 ⟨A5, c5, rfl, HJ⟩
   try simp only [lgc]
   have HN := gX hHeld.2.2 HJ.out
   refine ⟨_, rfl, ?_⟩
   refine hK.out _ _ ⟨(fun j => (HN).cell (g := gl) mem1 j), (fun j => (HN).cell (g := gt) dM j), (HN).dJ⟩ (fun hHeld => ?_)
   clear hK K
   refine fH (a' := ?_) ?_ ?_
   rotate_left
   ·show Act.put _ (some 29) _ = _
    simp only [Act.put, zA, zZ, zS, aI, aJ]
    rfl
   refine puS (i := 9) (N := some 30) (v := ?_) (a' := ?_) rfl rfl (by kernel_rfl) (fun _ _ _ h => h) (Or.inl ⟨by rfl, ?_⟩) ?_ ?_
   rotate_left
   ·intro w'
    go_simp
    with_reducible rfl
   rotate_left
   ·simp only [Act.put, zA, zZ, zS, aI, aJ]
    rfl
   refine puS (i := 10) (N := some 31) (v := ?_) (a' := ?_) rfl rfl (by kernel_rfl) (fun _ _ _ h => h) (Or.inl ⟨by rfl, ?_⟩) ?_ ?_
   rotate_left
   ·intro w'
    go_simp
    with_reducible rfl
   rotate_left
   ·simp only [Act.put, zA, zZ, zS, aI, aJ]
    rfl
   refine laS (i := 11) (N := some 32) rfl rfl (by kernel_rfl) (by decide) (fun K hK => ?_)
   refine wO Tryz.func55 (by kernel_rfl) rfl #[.pointer (some ⟨gl, 0, none⟩), .agg #[.slice A5 L1.l.length c5, .bool L1.dn, .int .i64 L1.fu, .int .i64 L1.fa, .int .i64 L1.size, .int .u64 L1.fr, .int .u64 L1.nx, .bool L1.br], .int .i64 e1] (by rfl) rfl rfl (by simp only [List.map_toArray, List.map_cons, List.map_nil]; rfl) ?_
   refine (log_any gl A c B d Q A5 c5 L1 e1 (rs := oO A5 c5 L1.l :: row k67 67 (.slice A (Q.L.l).length c) Q.L.l :: row k41 41 (.slice B (Q.es).length d) Q.es :: box gt [.string data] 9 :: box gs [.int .u64 seq] 28 :: ts) ⟨HN.jK⟩).mono ?_
   rintro e w6 ⟨hE, H4⟩
   rcases hE with ⟨hz, rfl⟩ | ⟨hnz, rfl⟩
   rotate_left
   ·refine .inr ⟨_, rfl, ?_⟩
    have hV : R = (⟨L1, Q.es, Q.most⟩, e1) := by rw [HR.out, BF, if_pos HM.out, if_pos HD.out, HL1.out, if_neg hnz]
    show _ ∧ _
    rw [hV]
    exact ⟨rfl, .inr ⟨hnz, rfl⟩, A5, c5, B, d, ⟨H4.out.drop2⟩⟩
   refine .inl ⟨_, rfl, ?_⟩
   refine hK.out _ _ ?_
   clear hK K
   refine fH (a' := ?_) ?_ ?_
   rotate_left
   ·show Act.put _ (some 32) _ = _
    simp only [Act.put, zA, zZ, zS, aI, aJ]
    rfl
   refine jT (by kernel_rfl) ?_
   have n_ : aC (Sep b w6 (box gl [.slice A5 L1.l.length c5, .bool L1.dn, .int .i64 L1.fu, .int .i64 L1.fa, .int .i64 L1.size, .int .u64 L1.fr, .int .u64 L1.nx, .bool L1.br, .slice B Q.es.length d, .int .i64 Q.most] 101 :: row k67 67 (.slice A5 (L1.l).length c5) L1.l :: row k41 41 (.slice B (Q.es).length d) Q.es :: box gt [.string data] 9 :: box gs [.int .u64 seq] 28 :: ts)) := ⟨H4.out.drop2⟩
   clear H4 HN HJ hHeld
   clear H c_l c_t c_s
   have H := n_
   clear n_
   have c_l := H.out.cell (g := gl) aQ
   have c_t := H.out.cell (g := gt) mem3
   have c_s := H.out.cell (g := gs) dM
   go_upto_region 3 with fail
   have hS3 := Sep.drew H.out
   refine iI (n := 15) (S := fun w' => (∀ j : Nat, w'.cell? ⟨gl, j, none⟩ = [.slice A5 L1.l.length c5, .bool L1.dn, .int .i64 L1.fu, .int .i64 L1.fa, .int .i64 L1.size, .int .u64 L1.fr, .int .u64 L1.nx, .bool L1.br, .slice B Q.es.length d, .int .i64 Q.most][j]?) ∧ (∀ j : Nat, w'.cell? ⟨gt, j, none⟩ = [.string data][j]?) ∧ (∀ j : Nat, w'.cell? ⟨gs, j, none⟩ = [.int .u64 seq][j]?) ∧ (∀ j : Nat, w'.frozen? ⟨gl, j, none⟩ = false)) (ds := [14]) #[false, false, false, false, false, false, false, false, false, false, false, false, false, false, false] (by kernel_rfl) rfl rfl ⟨(fun j => ((Sep.drew H.out)).cell (g := gl) aQ j), (fun j => ((Sep.drew H.out)).cell (g := gt) mem3 j), (fun j => ((Sep.drew H.out)).cell (g := gs) dM j), (fun j => ((Sep.drew H.out)).frozen (g := gl) aQ j)⟩ (fun hHeld => ?_)
   refine puS (i := 0) (N := some 33) (v := ?_) (a' := ?_) rfl rfl (by kernel_rfl) (fun _ _ _ h => h) (Or.inl ⟨by rfl, ?_⟩) ?_ ?_
   rotate_left
   ·intro w'
    go_simp
    with_reducible rfl
   rotate_left
   ·simp only [Act.put, zA, zZ, zS, aI, aJ]
    rfl
   refine puS (i := 1) (N := some 34) (v := ?_) (a' := ?_) rfl rfl (by kernel_rfl) (fun _ _ _ h => h) (Or.inl ⟨by rfl, ?_⟩) ?_ ?_
   rotate_left
   ·intro w'
    go_simp
    with_reducible rfl
   rotate_left
   ·simp only [Act.put, zA, zZ, zS, aI, aJ]
    rfl
   refine puS (i := 2) (N := some 35) (v := ?_) (a' := ?_) rfl rfl (by kernel_rfl) (fun _ _ _ h => h) (Or.inl ⟨by rfl, ?_⟩) ?_ ?_
   rotate_left
   ·intro w'
    go_simp
    with_reducible rfl
   rotate_left
   ·simp only [Act.put, zA, zZ, zS, aI, aJ]
    rfl
   refine puS (i := 3) (N := some 36) (v := ?_) (a' := ?_) rfl rfl (by kernel_rfl) (fun _ _ _ h => h) (Or.inl ⟨by rfl, ?_⟩) ?_ ?_
   rotate_left
   ·intro w'
    go_simp
    with_reducible rfl
   rotate_left
   ·simp only [Act.put, zA, zZ, zS, aI, aJ]
    rfl
   refine puS (i := 4) (N := some 37) (v := ?_) (a' := ?_) rfl rfl (by kernel_rfl) (fun _ _ _ h => h) (Or.inl ⟨by rfl, ?_⟩) ?_ ?_
   rotate_left
   ·intro w'
    go_simp
    with_reducible rfl
   rotate_left
   ·simp only [Act.put, zA, zZ, zS, aI, aJ]
    rfl
   refine tkS (i := 5) (N := some 38) (v := ?_) (a' := ?_) rfl rfl (by kernel_rfl) (fun _ _ _ h => h) (Or.inl ⟨by rfl, ?_⟩) hHeld ?_ ?_
   rotate_left
   ·rintro w' ⟨s0, s1, s2, s3⟩
    go_simp
    with_reducible rfl
   rotate_left
   ·simp only [Act.put, zA, zZ, zS, aI, aJ]
    rfl
   refine tkS (i := 6) (N := some 39) (v := ?_) (a' := ?_) rfl rfl (by kernel_rfl) (fun _ _ _ h => h) (Or.inl ⟨by rfl, ?_⟩) hHeld ?_ ?_
   rotate_left
   ·rintro w' ⟨s0, s1, s2, s3⟩
    go_simp
    with_reducible rfl
   rotate_left
   ·simp only [Act.put, zA, zZ, zS, aI, aJ]
    rfl
   refine tkS (i := 7) (N := some 40) (v := ?_) (a' := ?_) rfl rfl (by kernel_rfl) (fun _ _ _ h => h) (Or.inl ⟨by rfl, ?_⟩) hHeld ?_ ?_
   rotate_left
   ·rintro w' ⟨s0, s1, s2, s3⟩
    go_simp
    with_reducible rfl
   rotate_left
   ·simp only [Act.put, zA, zZ, zS, aI, aJ]
    rfl
   refine puS (i := 8) (N := some 41) (v := ?_) (a' := ?_) rfl rfl (by kernel_rfl) (fun _ _ _ h => h) (Or.inl ⟨by rfl, ?_⟩) ?_ ?_
   rotate_left
   ·intro w'
    go_simp
    with_reducible rfl
   rotate_left
   ·simp only [Act.put, zA, zZ, zS, aI, aJ]
    rfl
   refine onS (i := 9) (N := some 42) rfl rfl (by kernel_rfl) (by decide) (fun K hK => ?_)
   refine RF (N := some 42) (by rfl) rfl hS3 [.int .u64 seq, .string data, .bool false] 41 1 ?_ ?_
   ·first | (go_simp; done) | (go_simp; rfl)
   intro g9 w9 hS9
   refine hK.out _ _ ⟨(fun j => (hS9).cell (g := gl) mem1 j), (fun j => (hS9).cell (g := gt) dM j), (fun j => (hS9).cell (g := gs) eF j), (fun j => (hS9).frozen (g := gl) mem1 j)⟩ (fun hHeld => ?_)
   clear hK K
   refine fH (a' := ?_) ?_ ?_
   rotate_left
   ·show Act.put _ (some 42) _ = _
    simp only [Act.put, zA, zZ, zS, aI, aJ]
    rfl
   refine onS (i := 10) (N := some 43) rfl rfl (by kernel_rfl) (by decide) (fun K hK => ?_)
   refine zN k41 yK (by rfl) (.tmp 38) (.tmp 42) 31 41 (.agg #[.int .u64 0, .string ⟨#[]⟩, .bool false]) 32 rfl Tryz.underlying31 OD rfl (by decide) (by decide) (.slice B Q.es.length d) Q.es [(⟨seq, data, false⟩ : S41)] (some ⟨g9, 0, none⟩) 1 (by first | rfl | (go_simp; done) | (go_simp; rfl)) (by first | rfl | (go_simp; done) | (go_simp; rfl)) (ZK (fun j => hS9.cell (g := g9) aQ j)) (fun x cs h => by obtain rfl := DK h; exact I8 _ _ _ _) hS9.jQ (by have := HEL.out; simp only [List.length_singleton]; omega) ?_
   intro A10 c10 w10 qH
   obtain ⟨es2, hes2⟩ : ∃ es2, es2 = Q.es ++ [(⟨seq, data, false⟩ : S41)] := ⟨_, rfl⟩
   rw [← hes2] at qH ⊢
   have qii := aC.mk hes2
   clear hes2
   refine hK.out _ _ ⟨(fun j => qH.cell (g := gl) mem2 j), (fun j => qH.cell (g := gt) dM j), (fun j => qH.cell (g := gs) eF j), (fun j => qH.frozen (g := gl) mem2 j)⟩ (fun hHeld => ?_)
   clear hK K
   refine fH (a' := ?_) ?_ ?_
   rotate_left
   ·show Act.put _ (some 43) _ = _
    simp only [Act.put, zA, zZ, zS, aI, aJ]
    rfl
   refine puS (i := 11) (N := some 44) (v := ?_) (a' := ?_) rfl rfl (by kernel_rfl) (fun _ _ _ h => h) (Or.inl ⟨by rfl, ?_⟩) ?_ ?_
   rotate_left
   ·intro w'
    go_simp
    with_reducible rfl
   rotate_left
   ·simp only [Act.put, zA, zZ, zS, aI, aJ]
    rfl
   refine puS (i := 12) (N := some 45) (v := ?_) (a' := ?_) rfl rfl (by kernel_rfl) (fun _ _ _ h => h) (Or.inl ⟨by rfl, ?_⟩) ?_ ?_
   rotate_left
   ·intro w'
    go_simp
    with_reducible rfl
   rotate_left
   ·simp only [Act.put, zA, zZ, zS, aI, aJ]
    rfl
   refine puS (i := 13) (N := some 46) (v := ?_) (a' := ?_) rfl rfl (by kernel_rfl) (fun _ _ _ h => h) (Or.inl ⟨by rfl, ?_⟩) ?_ ?_
   rotate_left
   ·intro w'
    go_simp
    with_reducible rfl
   rotate_left
   ·simp only [Act.put, zA, zZ, zS, aI, aJ]
    rfl
   refine laS (i := 14) (N := none) rfl rfl (by kernel_rfl) (by decide) (fun K hK => ?_)
   refine xO (w1 := ?_) (by rfl) rfl ?_ ?_
   rotate_left
   ·go_simp
    rfl
   refine hK.out _ _ ?_
   clear hK K
   refine jT (by kernel_rfl) ?_
   refine uI (rs := (row k41 41 (.slice A10 (es2).length c10) es2 :: box g9 [.int .u64 seq, .string data, .bool false] 41 :: box gl [.slice A5 L1.l.length c5, .bool L1.dn, .int .i64 L1.fu, .int .i64 L1.fa, .int .i64 L1.size, .int .u64 L1.fr, .int .u64 L1.nx, .bool L1.br, .slice A10 es2.length c10, .int .i64 Q.most] 101 :: row k67 67 (.slice A5 (L1.l).length c5) L1.l :: box gt [.string data] 9 :: box gs [.int .u64 seq] 28 :: ts)) (Sep.set2 qH 8 (.slice A10 es2.length c10) rfl) ?_
   clear qH hS9 hS3
   intro wd2 n_
   clear H c_l c_t c_s
   have H := n_
   clear n_
   have c_9 := H.out.cell (g := g9) mem1
   have c_l := H.out.cell (g := gl) mem2
   have c_t := H.out.cell (g := gt) dM
   have c_s := H.out.cell (g := gs) eF
   go_end0
   have hV : R = (⟨L1, es2, Q.most⟩, 0) := by rw [HR.out, BF, if_pos HM.out, if_pos HD.out, HL1.out, if_pos hz, qii.out]
   rw [hV]
   exact ⟨.inl ⟨rfl, rfl⟩, A5, c5, A10, c10, ⟨(Sep.iL (Sep.iL (Sep.gY (Sep.iL (Sep.iL (Sep.drop1 H.out))))))⟩⟩
  ·
   have q1 : decide ((data.size : Int) < 65536) = false := decide_eq_false (by omega)
   go_wp2_with fail
   try simp only [q1]
   refine (vP 4 _).mono ?_
   rintro e w_ ⟨rfl, rfl⟩
   try go_wp2_with fail
   have hV : R = (Q, 4) := by rw [HR.out, BF, if_pos HM.out, if_neg hd]
   show _ ∧ _
   rw [hV]
   exact ⟨rfl, .inr ⟨show (4 : Int) ≠ 0 by decide, rfl⟩, A, c, B, d, H⟩
 ·
  have q1 := decide_eq_false hm
  go_upto_region 0 with fail
  refine iI (n := 13) (S := fun w' => (∀ j : Nat, w'.cell? ⟨gl, j, none⟩ = [.slice A Q.L.l.length c, .bool Q.L.dn, .int .i64 Q.L.fu, .int .i64 Q.L.fa, .int .i64 Q.L.size, .int .u64 Q.L.fr, .int .u64 Q.L.nx, .bool Q.L.br, .slice B Q.es.length d, .int .i64 Q.most][j]?) ∧ Sp.Sep b w' (box gl [.slice A Q.L.l.length c, .bool Q.L.dn, .int .i64 Q.L.fu, .int .i64 Q.L.fa, .int .i64 Q.L.size, .int .u64 Q.L.fr, .int .u64 Q.L.nx, .bool Q.L.br, .slice B Q.es.length d, .int .i64 Q.most] 101 :: row k67 67 (.slice A (Q.L.l).length c) Q.L.l :: row k41 41 (.slice B (Q.es).length d) Q.es :: box gt [.string data] 9 :: box gs [.int .u64 seq] 28 :: ts)) (ds := [12]) #[false, false, false, false, false, false, false, false, false, false, false, false, false] (by kernel_rfl) rfl rfl ⟨(fun j => ((Sep.drew H.out)).cell (g := gl) aQ j), (Sep.drew H.out)⟩ (fun hHeld => ?_)
  refine puS (i := 0) (N := some 4) (v := ?_) (a' := ?_) rfl rfl (by kernel_rfl) (fun _ _ _ h => h) (Or.inl ⟨by rfl, ?_⟩) ?_ ?_
  rotate_left
  ·intro w'
   go_simp
   with_reducible rfl
  rotate_left
  ·simp only [Act.put, zA, zZ, zS, aI, aJ]
   rfl
  refine puS (i := 1) (N := some 5) (v := ?_) (a' := ?_) rfl rfl (by kernel_rfl) (fun _ _ _ h => h) (Or.inl ⟨by rfl, ?_⟩) ?_ ?_
  rotate_left
  ·intro w'
   go_simp
   with_reducible rfl
  rotate_left
  ·simp only [Act.put, zA, zZ, zS, aI, aJ]
   rfl
  refine puS (i := 2) (N := some 6) (v := ?_) (a' := ?_) rfl rfl (by kernel_rfl) (fun _ _ _ h => h) (Or.inl ⟨by rfl, ?_⟩) ?_ ?_
  rotate_left
  ·intro w'
   go_simp
   with_reducible rfl
  rotate_left
  ·simp only [Act.put, zA, zZ, zS, aI, aJ]
   rfl
  refine puS (i := 3) (N := some 7) (v := ?_) (a' := ?_) rfl rfl (by kernel_rfl) (fun _ _ _ h => h) (Or.inl ⟨by rfl, ?_⟩) ?_ ?_
  rotate_left
  ·intro w'
   go_simp
   with_reducible rfl
  rotate_left
  ·simp only [Act.put, zA, zZ, zS, aI, aJ]
   rfl
  refine puS (i := 6) (N := some 10) (v := ?_) (a' := ?_) rfl rfl (by kernel_rfl) (fun _ _ _ h => h) (Or.inl ⟨by rfl, ?_⟩) ?_ ?_
  rotate_left
  ·intro w'
   go_simp
   with_reducible rfl
  rotate_left
  ·simp only [Act.put, zA, zZ, zS, aI, aJ]
   rfl
  refine puS (i := 7) (N := some 11) (v := ?_) (a' := ?_) rfl rfl (by kernel_rfl) (fun _ _ _ h => h) (Or.inl ⟨by rfl, ?_⟩) ?_ ?_
  rotate_left
  ·intro w'
   go_simp
   with_reducible rfl
  rotate_left
  ·simp only [Act.put, zA, zZ, zS, aI, aJ]
   rfl
  refine puS (i := 8) (N := some 12) (v := ?_) (a' := ?_) rfl rfl (by kernel_rfl) (fun _ _ _ h => h) (Or.inl ⟨by rfl, ?_⟩) ?_ ?_
  rotate_left
  ·intro w'
   go_simp
   with_reducible rfl
  rotate_left
  ·simp only [Act.put, zA, zZ, zS, aI, aJ]
   rfl
  refine puS (i := 9) (N := some 13) (v := ?_) (a' := ?_) rfl rfl (by kernel_rfl) (fun _ _ _ h => h) (Or.inl ⟨by rfl, ?_⟩) ?_ ?_
  rotate_left
  ·intro w'
   go_simp
   with_reducible rfl
  rotate_left
  ·simp only [Act.put, zA, zZ, zS, aI, aJ]
   rfl
  refine tkS (i := 4) (N := some 8) (v := ?_) (a' := ?_) rfl rfl (by kernel_rfl) (fun _ _ _ h => h) (Or.inl ⟨by rfl, ?_⟩) hHeld ?_ ?_
  rotate_left
  ·rintro w' ⟨s0, s1⟩
   go_simp
   with_reducible rfl
  rotate_left
  ·simp only [Act.put, zA, zZ, zS, aI, aJ]
   rfl
  refine puS (i := 5) (N := some 9) (v := ?_) (a' := ?_) rfl rfl (by kernel_rfl) (fun _ _ _ h => h) (Or.inl ⟨by rfl, ?_⟩) ?_ ?_
  rotate_left
  ·intro w'
   go_simp
   with_reducible rfl
  rotate_left
  ·simp only [Act.put, zA, zZ, zS, aI, aJ]
   rfl
  refine tkS (i := 10) (N := some 14) (v := ?_) (a' := ?_) rfl rfl (by kernel_rfl) (fun _ _ _ h => h) (Or.inl ⟨by rfl, ?_⟩) hHeld ?_ ?_
  rotate_left
  ·rintro w' ⟨s0, s1⟩
   go_simp
   with_reducible rfl
  rotate_left
  ·simp only [Act.put, zA, zZ, zS, aI, aJ]
   rfl
  refine puS (i := 11) (N := some 15) (v := ?_) (a' := ?_) rfl rfl (by kernel_rfl) (fun _ _ _ h => h) (Or.inl ⟨by rfl, ?_⟩) ?_ ?_
  rotate_left
  ·intro w'
   go_simp
   with_reducible rfl
  rotate_left
  ·simp only [Act.put, zA, zZ, zS, aI, aJ]
   rfl
  refine laS (i := 12) (N := some 16) rfl rfl (by kernel_rfl) (by decide) (fun K hK => ?_)
  refine wO Tryz.func54 (by kernel_rfl) rfl #[.bool false, .int .i64 8] (by rfl) rfl rfl (by simp only [List.map_toArray, List.map_cons, List.map_nil]; rfl) ?_
  refine (vP 8 _).mono ?_
  rintro e w5 ⟨rfl, rfl⟩
  refine .inr ⟨_, rfl, ?_⟩
  have hV : R = (Q, 8) := by rw [HR.out, BF, if_neg hm]
  show _ ∧ _
  rw [hV]
  exact ⟨rfl, .inr ⟨show (8 : Int) ≠ 0 by decide, rfl⟩, A, c, B, d, ⟨hHeld.2⟩⟩
end Go.Proofs.U
namespace Go.Proofs.U
open Go.Proofs.UE (oG sO)
open Go.Proofs
open Go.RowKit Go.Proofs.aA.aK Go.Proofs.aA.aW Go.Proofs.aA.aZ Go.Proofs.Sp Go.Proofs.dZ
theorem uM {b w : World} {rs : List Res} {B : Option Addr} {d : Nat} {es : List S41} (H : Sep b w rs) (hm : uG B d es ∈ rs) (hne : 0 < es.length) : ∃ gp, B = some ⟨gp, 0, none⟩ := by
 obtain ⟨g, cur, h, _⟩ := UE.lS (H.qbh hm) hne
 exact ⟨g, h⟩
theorem tY {b w : World} {rs : List Res} {gp d i : Nat} {es : List S41} {x : S41} (H : Sep b w rs) (hm : uG (some ⟨gp, 0, none⟩) d es ∈ rs) (hx : es[i]? = some x) :
  w.cell? ⟨gp, i * 3, none⟩ = some (.int .u64 x.f0) ∧ w.cell? ⟨gp, i * 3 + 1, none⟩ = some (.string x.f1) ∧ w.cell? ⟨gp, i * 3 + 2, none⟩ = some (.bool x.f2) ∧ ∀ j, w.frozen? ⟨gp, j, none⟩ = false := by
 have hi := (List.getElem?_eq_some_iff.1 hx).1
 obtain ⟨g, cur, h, -, -, hh, -, -, -, h6⟩ := UE.lS (H.qbh hm) (by omega)
 injection h with h
 injection h with h
 subst h
 obtain ⟨q0, q1, q2⟩ := UE.jF _ i x hx
 exact ⟨UE.kF hh h6 q0, UE.kF hh h6 q1, UE.kF hh h6 q2, fun j => aG hh j⟩
set_option maxHeartbeats 8000000 in
theorem qcb (b : World) (Q : Qu) (gx : Nat) (hel : Q.es.length ≤ 1024) : IB b 56 [.pointer (some ⟨gx, 0, none⟩)] Q [box gx [.int .u64 0, .string ⟨#[]⟩, .bool false] 41] [box gx [.int .u64 (uX Q).f0, .string (uX Q).f1, .bool (uX Q).f2] 41] (qE Q).1 (qE Q).2 := by
 intro gl A c B d w ts H0
 obtain ⟨R, hR⟩ : ∃ R, R = qE Q := ⟨_, rfl⟩
 obtain ⟨X, hX⟩ : ∃ X, X = uX Q := ⟨_, rfl⟩
 rw [← hR, ← hX]
 have HR := aC.mk hR
 have HXE := aC.mk hX
 clear hR hX
 have H : aC (Sep b w (box gl [.slice A Q.L.l.length c, .bool Q.L.dn, .int .i64 Q.L.fu, .int .i64 Q.L.fa, .int .i64 Q.L.size, .int .u64 Q.L.fr, .int .u64 Q.L.nx, .bool Q.L.br, .slice B Q.es.length d, .int .i64 Q.most] 101 :: row k67 67 (.slice A (Q.L.l).length c) Q.L.l :: row k41 41 (.slice B (Q.es).length d) Q.es :: box gx [.int .u64 0, .string ⟨#[]⟩, .bool false] 41 :: ts)) := H0
 clear H0
 have c_l := H.out.cell (g := gl) aQ
 have c_x := H.out.cell (g := gx) mem3
 go_enter Tryz.func56, Tryz.ntmps56
 go_wp2_with fail
 refine ((ND free 58 [] B d Q.es _ (H.out.reads mem2).2.2 (fun args w => by simp [go_sem]) (fun x w' hb => qez x w')).mono ?_)
 rintro e wd1 ⟨rfl, hb_⟩
 have n_ : aC (Sep b wd1 (box gl [.slice A Q.L.l.length c, .bool Q.L.dn, .int .i64 Q.L.fu, .int .i64 Q.L.fa, .int .i64 Q.L.size, .int .u64 Q.L.fr, .int .u64 Q.L.nx, .bool Q.L.br, .slice B Q.es.length d, .int .i64 Q.most] 101 :: row k67 67 (.slice A (Q.L.l).length c) Q.L.l :: row k41 41 (.slice B (Q.es).length d) Q.es :: box gx [.int .u64 0, .string ⟨#[]⟩, .bool false] 41 :: ts)) := ⟨H.out.step hb_⟩
 clear H c_l c_x
 have H := n_
 clear n_
 have c_l := H.out.cell (g := gl) aQ
 have c_x := H.out.cell (g := gx) mem3
 clear hb_
 cases hix : oQ free Q.es with
 | none =>
  have hi : FU free Q.es = -1 := by rw [FU, hix]
  rw [hi]
  go_wp2_with fail
  refine (vP 7 _).mono ?_
  rintro e w_ ⟨rfl, rfl⟩
  try go_wp2_with fail
  have hV : R = (Q, 7) := by rw [HR.out, qE, hix]
  have hE : X = z41 := by rw [HXE.out, uX, hix]
  show _ ∧ _
  rw [hV, hE]
  exact ⟨rfl, .inr ⟨show (7 : Int) ≠ 0 by decide, rfl⟩, A, c, B, d, H⟩
 | some i =>
  have hi : FU free Q.es = (i : Int) := by rw [FU, hix]
  rw [hi]
  have hil := X3 hix
  obtain ⟨x, hx⟩ : ∃ x, Q.es[i]? = some x := ⟨_, List.getElem?_eq_getElem hil⟩
  have hV : R = (⟨Q.L, Q.es.set i ⟨x.f0, x.f1, true⟩, Q.most⟩, 0) := by rw [HR.out, qE, hix]; simp only [JD, hx]
  have hE : X = ⟨x.f0, x.f1, true⟩ := by rw [HXE.out, uX, hix]; simp only [hx]
  obtain ⟨es2, hes2⟩ : ∃ es2, es2 = Q.es.set i ⟨x.f0, x.f1, true⟩ := ⟨_, rfl⟩
  have HE2 := aC.mk hes2
  have HX2 : aC (es2[i]? = some ⟨x.f0, x.f1, true⟩) := ⟨by rw [hes2, List.getElem?_set_self hil]⟩
  have HL2 : aC (es2.length = Q.es.length) := ⟨by rw [hes2, List.length_set]⟩
  rw [← hes2] at hV
  have HV := aC.mk hV
  have HE := aC.mk hE
  have HX1 : aC ((UE.cellsOf Q.es).set (i * 3 + 2) (.bool true) = UE.cellsOf es2) := ⟨by rw [hes2]; exact UE.kC Q.es i x true hx⟩
  have HX := aC.mk hx
  obtain ⟨gp, hgp⟩ := uM (B := B) (d := d) (es := Q.es) H.out mem2 (by omega)
  subst hgp
  have hi0 : (0 : Int) ≤ (i : Int) := by omega
  have hi1 : (i : Int) < (Q.es.length : Int) := by omega
  clear hi hV hE hes2 hx hix hil
  go_wp2_with fail
  refine (sN 7 _).mono ?_
  rintro e w_ ⟨rfl, rfl⟩
  obtain ⟨k0, k1, k2, kf⟩ := tY (gp := gp) (d := d) H.out mem2 HX.out
  have kf2 := kf (i * 3 + 2)
  clear kf
  go_wp2_with (first
 |((with_reducible refine aX (t := 4) (p := 20) rfl ?_);
   refine bM (rs1 := (box gl [.slice A Q.L.l.length c, .bool Q.L.dn, .int .i64 Q.L.fu, .int .i64 Q.L.fa, .int .i64 Q.L.size, .int .u64 Q.L.fr, .int .u64 Q.L.nx, .bool Q.L.br, .slice (some ⟨gp, 0, none⟩) Q.es.length d, .int .i64 Q.most] 101 :: row k67 67 (.slice A (Q.L.l).length c) Q.L.l :: row k41 41 (.slice (some ⟨gp, 0, none⟩) Q.es.length d) es2 :: box gx [.int .u64 0, .string ⟨#[]⟩, .bool false] 41 :: ts)) rfl (t := 4) (p := 20) rfl rfl ?hr (H1 := (oG (pre := [box gl [.slice A Q.L.l.length c, .bool Q.L.dn, .int .i64 Q.L.fu, .int .i64 Q.L.fa, .int .i64 Q.L.size, .int .u64 Q.L.fr, .int .u64 Q.L.nx, .bool Q.L.br, .slice (some ⟨gp, 0, none⟩) Q.es.length d, .int .i64 Q.most] 101, row k67 67 (.slice A (Q.L.l).length c) Q.L.l]) (l' := es2) (j := i * 3 + 2) (u := .bool true) rfl H.out HL2.out HX1.out (by have := (List.getElem?_eq_some_iff.1 HX.out).1; omega))) ?_;
   (case hr => first | (go_simp; done) | (go_simp; rfl));
   intro wd2 n_;
   clear k0 k1 k2 kf2;
   clear H c_l c_x;
   have H := n_;
   clear n_;
   have c_l := H.out.cell (g := gl) aQ;
   have c_x := H.out.cell (g := gx) mem3;
   obtain ⟨m0, m1, m2, mf⟩ := tY (gp := gp) (d := d) (es := es2) (by have h := H.out; rwa [← HL2.out] at h) mem2 HX2.out;
   clear mf;
   have z_x := H.out.frozen (g := gx) mem3)
 |((with_reducible refine aX (t := 41) (p := 1) rfl ?_);
   refine bM (rs1 := (box gl [.slice A Q.L.l.length c, .bool Q.L.dn, .int .i64 Q.L.fu, .int .i64 Q.L.fa, .int .i64 Q.L.size, .int .u64 Q.L.fr, .int .u64 Q.L.nx, .bool Q.L.br, .slice (some ⟨gp, 0, none⟩) Q.es.length d, .int .i64 Q.most] 101 :: row k67 67 (.slice A (Q.L.l).length c) Q.L.l :: row k41 41 (.slice (some ⟨gp, 0, none⟩) Q.es.length d) es2 :: box gx [.int .u64 x.f0, .string x.f1, .bool true] 41 :: ts)) rfl (t := 41) (p := 1) rfl rfl ?hr (H1 := (Sep.eU (Sep.eU (Sep.eU H.out 0 (.int .u64 x.f0) rfl) 1 (.string x.f1) rfl) 2 (.bool true) rfl)) ?_;
   (case hr => first | (go_simp; done) | (go_simp; rfl));
   intro wd3 n_;
   clear H c_l c_x z_x;
   have H := n_;
   clear n_;
   have c_l := H.out.cell (g := gl) aQ;
   have c_x := H.out.cell (g := gx) mem3;
   have z_x := H.out.frozen (g := gx) mem3;
   clear m0 m1 m2)
 |fail)
  go_end0
  have h9 := H.out
  rw [HV.out, HE.out]
  rw [← HL2.out] at h9
  exact ⟨.inl ⟨rfl, rfl⟩, A, c, some ⟨gp, 0, none⟩, d, ⟨h9⟩⟩
theorem qcc {L : Lg} {k : Nat} : (gK L k).1.nx = L.nx := by
 unfold gK
 split <;> rfl
theorem qaD {L R : Lg} {d : ByteArray} (h : bT L d = (R, 0)) : R.nx = L.nx + 1 ∧ L.nx < 4611686018427387904 ∧ R.fr = L.fr := by
 rw [bT] at h
 split at h
 case isFalse => cases h
 rw [iW] at h
 split at h
 ·cases h
 split at h
 ·cases h
 split at h
 ·cases h
 rename_i hm
 split at h
 case isFalse hz => exact absurd (by rw [h]) hz
 rename_i hz
 have hfr : (gK L (dN L.nx d).size).1.fr = L.fr := by
  unfold gK
  split <;> rfl
 have hnx := qcc (L := L) (k := (dN L.nx d).size)
 generalize gK L (dN L.nx d).size = X at h hfr hnx
 unfold oP at h
 split at h
 case isFalse hz1 => exact absurd (by rw [h]) hz1
 split at h
 case isFalse hz2 => exact absurd (by rw [h]) hz2
 obtain ⟨h, _⟩ := Prod.mk.inj h
 rw [← h]
 refine ⟨?_, by omega, hfr⟩
 show X.1.nx + 1 = _
 rw [hnx]
def uN (es : List S41) (nx : Int) : Int := match es with | [] => nx | x :: _ => x.f0
noncomputable def zK (Q : Qu) (q : Int) : Qu × Int := match oQ (jL q) Q.es with
 | none => (Q, 19)
 | some i => if (bT Q.L (kD q)).2 = 0 then
   (⟨(kH (bT Q.L (kD q)).1 (uN (Q.es.eraseIdx i) (bT Q.L (kD q)).1.nx)).1, Q.es.eraseIdx i, Q.most⟩, (kH (bT Q.L (kD q)).1 (uN (Q.es.eraseIdx i) (bT Q.L (kD q)).1.nx)).2)
  else (⟨(bT Q.L (kD q)).1, Q.es, Q.most⟩, (bT Q.L (kD q)).2)
theorem rF {nx : Int} : ∀ {l : List S41} {least : Int}, 0 ≤ least → tX nx least l → ∀ x ∈ l, 0 ≤ x.f0 ∧ x.f0 < nx
 | [], _, _, _, x, hx => by cases hx
 | y :: r, least, h0, h, x, hx => by
  obtain ⟨_, h2, h3, h4⟩ := h
  rcases List.mem_cons.1 hx with rfl | hx
  ·exact ⟨by omega, h3⟩
  ·exact rF (by omega) h4 x hx
set_option maxHeartbeats 8000000 in
theorem qeD (b : World) (Q : Qu) (gs : Nat) (q : Int) (hq0 : 0 ≤ q) (hq1 : q < 18446744073709551616) (hG : Gl b) (hnx : 0 ≤ Q.L.nx) (hnx2 : Q.L.nx < 18446744073709551616) (hfr : 0 ≤ Q.L.fr) (hok : okQ Q) : IB b 59 [.pointer (some ⟨gs, 0, none⟩)] Q [box gs [.int .u64 q] 28] [box gs [.int .u64 q] 28] (zK Q q).1 (zK Q q).2 := by
 intro gl A c B d w ts H0
 have HG := aC.mk hG
 have hel : Q.es.length ≤ 1024 := hok.2.2.2.1
 have HEL := aC.mk hel
 have HES : aC (∀ x ∈ Q.es, 0 ≤ x.f0 ∧ x.f0 < Q.L.nx) := ⟨rF hfr hok.2.2.2.2⟩
 have HQ0 := aC.mk hq0
 have HQ1 := aC.mk hq1
 obtain ⟨R, hR⟩ : ∃ R, R = zK Q q := ⟨_, rfl⟩
 rw [← hR]
 have HR := aC.mk hR
 have HAP := aC.mk (fun A c w hr hc hG => KQ A c Q.L (kD q) w hr hc hG hnx hnx2)
 obtain ⟨L1, e1, hL1⟩ : ∃ L1 e1, bT Q.L (kD q) = (L1, e1) := ⟨_, _, rfl⟩
 rw [hL1] at HAP
 simp only [lgc] at HAP
 have HL1 := aC.mk hL1
 have HNX := aC.mk hnx
 clear hR hG hL1 hnx hnx2 hel hfr hok hq0 hq1
 have H : aC (Sep b w (box gl [.slice A Q.L.l.length c, .bool Q.L.dn, .int .i64 Q.L.fu, .int .i64 Q.L.fa, .int .i64 Q.L.size, .int .u64 Q.L.fr, .int .u64 Q.L.nx, .bool Q.L.br, .slice B Q.es.length d, .int .i64 Q.most] 101 :: row k67 67 (.slice A (Q.L.l).length c) Q.L.l :: row k41 41 (.slice B (Q.es).length d) Q.es :: box gs [.int .u64 q] 28 :: ts)) := H0
 clear H0
 have c_l := H.out.cell (g := gl) aQ
 have c_s := H.out.cell (g := gs) mem3
 go_enter Tryz.func59, Tryz.ntmps59
 go_wp2_with fail
 refine (WA gl A c B d Q q (rs := box gs [.int .u64 q] 28 :: ts) H).mono ?_
 rintro e wd1 ⟨hE, H4⟩
 have n_ : aC (Sep b wd1 (box gl [.slice A Q.L.l.length c, .bool Q.L.dn, .int .i64 Q.L.fu, .int .i64 Q.L.fa, .int .i64 Q.L.size, .int .u64 Q.L.fr, .int .u64 Q.L.nx, .bool Q.L.br, .slice B Q.es.length d, .int .i64 Q.most] 101 :: row k67 67 (.slice A (Q.L.l).length c) Q.L.l :: row k41 41 (.slice B (Q.es).length d) Q.es :: box gs [.int .u64 q] 28 :: ts)) := ⟨H4.out⟩
 clear H c_l c_s
 have H := n_
 clear n_
 have c_l := H.out.cell (g := gl) aQ
 have c_s := H.out.cell (g := gs) mem3
 clear H4
 rcases hE with ⟨i, hix, rfl⟩ | ⟨hix, rfl⟩
 ·
  have hil := X3 hix
  have HIX := aC.mk hix
  have hi0 : (0 : Int) ≤ (i : Int) := by omega
  have HIL := aC.mk hil
  clear hix hil
  go_upto_region 1 with fail
  refine iI (n := 12) (S := fun w' => (∀ j : Nat, w'.cell? ⟨gl, j, none⟩ = [.slice A Q.L.l.length c, .bool Q.L.dn, .int .i64 Q.L.fu, .int .i64 Q.L.fa, .int .i64 Q.L.size, .int .u64 Q.L.fr, .int .u64 Q.L.nx, .bool Q.L.br, .slice B Q.es.length d, .int .i64 Q.most][j]?) ∧ (∀ j : Nat, w'.cell? ⟨gs, j, none⟩ = [.int .u64 q][j]?) ∧ Sp.Sep b w' (box gl [.slice A Q.L.l.length c, .bool Q.L.dn, .int .i64 Q.L.fu, .int .i64 Q.L.fa, .int .i64 Q.L.size, .int .u64 Q.L.fr, .int .u64 Q.L.nx, .bool Q.L.br, .slice B Q.es.length d, .int .i64 Q.most] 101 :: row k67 67 (.slice A (Q.L.l).length c) Q.L.l :: row k41 41 (.slice B (Q.es).length d) Q.es :: box gs [.int .u64 q] 28 :: ts)) (ds := [11]) #[false, false, false, false, false, false, false, false, false, false, false, false] (by kernel_rfl) rfl rfl ⟨(fun j => ((Sep.drew H.out)).cell (g := gl) aQ j), (fun j => ((Sep.drew H.out)).cell (g := gs) mem3 j), (Sep.drew H.out)⟩ (fun hHeld => ?_)
  refine puS (i := 0) (N := some 8) (v := ?_) (a' := ?_) rfl rfl (by kernel_rfl) (fun _ _ _ h => h) (Or.inl ⟨by rfl, ?_⟩) ?_ ?_
  rotate_left
  ·intro w'
   go_simp
   with_reducible rfl
  rotate_left
  ·simp only [Act.put, zA, zZ, zS, aI, aJ]
   rfl
  refine puS (i := 1) (N := some 9) (v := ?_) (a' := ?_) rfl rfl (by kernel_rfl) (fun _ _ _ h => h) (Or.inl ⟨by rfl, ?_⟩) ?_ ?_
  rotate_left
  ·intro w'
   go_simp
   with_reducible rfl
  rotate_left
  ·simp only [Act.put, zA, zZ, zS, aI, aJ]
   rfl
  refine puS (i := 2) (N := some 10) (v := ?_) (a' := ?_) rfl rfl (by kernel_rfl) (fun _ _ _ h => h) (Or.inl ⟨by rfl, ?_⟩) ?_ ?_
  rotate_left
  ·intro w'
   go_simp
   with_reducible rfl
  rotate_left
  ·simp only [Act.put, zA, zZ, zS, aI, aJ]
   rfl
  refine puS (i := 3) (N := some 11) (v := ?_) (a' := ?_) rfl rfl (by kernel_rfl) (fun _ _ _ h => h) (Or.inl ⟨by rfl, ?_⟩) ?_ ?_
  rotate_left
  ·intro w'
   go_simp
   with_reducible rfl
  rotate_left
  ·simp only [Act.put, zA, zZ, zS, aI, aJ]
   rfl
  refine puS (i := 4) (N := some 12) (v := ?_) (a' := ?_) rfl rfl (by kernel_rfl) (fun _ _ _ h => h) (Or.inl ⟨by rfl, ?_⟩) ?_ ?_
  rotate_left
  ·intro w'
   go_simp
   with_reducible rfl
  rotate_left
  ·simp only [Act.put, zA, zZ, zS, aI, aJ]
   rfl
  refine tkS (i := 5) (N := some 13) (v := ?_) (a' := ?_) rfl rfl (by kernel_rfl) (fun _ _ _ h => h) (Or.inl ⟨by rfl, ?_⟩) hHeld ?_ ?_
  rotate_left
  ·rintro w' ⟨s0, s1, s2⟩
   go_simp
   with_reducible rfl
  rotate_left
  ·simp only [Act.put, zA, zZ, zS, aI, aJ]
   rfl
  refine tkS (i := 6) (N := some 14) (v := ?_) (a' := ?_) rfl rfl (by kernel_rfl) (fun _ _ _ h => h) (Or.inl ⟨by rfl, ?_⟩) hHeld ?_ ?_
  rotate_left
  ·rintro w' ⟨s0, s1, s2⟩
   go_simp
   with_reducible rfl
  rotate_left
  ·simp only [Act.put, zA, zZ, zS, aI, aJ]
   rfl
  refine onS (i := 7) (N := some 15) rfl rfl (by kernel_rfl) (by decide) (fun K hK => ?_)
  refine pV Tryz.func61 (by kernel_rfl) rfl #[.int .u64 q] (by rfl) rfl rfl (by simp only [List.map_toArray, List.map_cons, List.map_nil]; rfl) ?_
  with_reducible refine (qaB q _ HQ0.out HQ1.out).mono ?_
  rintro e w5 ⟨rfl, hb5⟩
  refine ⟨_, rfl, ?_⟩
  refine hK.out _ _ ⟨(fun j => ((Sep.step hHeld.2.2 hb5)).cell (g := gl) aQ j), (fun j => ((Sep.step hHeld.2.2 hb5)).cell (g := gs) mem3 j), (Sep.step hHeld.2.2 hb5)⟩ (fun hHeld => ?_)
  clear hK K
  refine fH (a' := ?_) ?_ ?_
  rotate_left
  ·show Act.put _ (some 15) _ = _
   simp only [Act.put, zA, zZ, zS, aI, aJ]
   rfl
  refine onS (i := 8) (N := some 16) rfl rfl (by kernel_rfl) (by decide) (fun K hK => ?_)
  refine pV Tryz.func31 (by kernel_rfl) rfl #[.agg #[.slice A Q.L.l.length c, .bool Q.L.dn, .int .i64 Q.L.fu, .int .i64 Q.L.fa, .int .i64 Q.L.size, .int .u64 Q.L.fr, .int .u64 Q.L.nx, .bool Q.L.br], .string (kD q)] (by rfl) rfl rfl (by simp only [List.map_toArray, List.map_cons, List.map_nil]; rfl) ?_
  with_reducible refine (HAP.out A c _ (Sep.reads hHeld.2.2 mem1).2.2 (Sep.reads hHeld.2.2 mem1).2.1 (HG.out.below (Sep.below hHeld.2.2))).mono ?_
  rintro e w6 ⟨A5, c5, rfl, HJ⟩
  try simp only [lgc]
  have HN := gX hHeld.2.2 HJ.out
  refine ⟨_, rfl, ?_⟩
  refine hK.out _ _ ⟨(fun j => (HN).cell (g := gl) mem1 j), (fun j => (HN).cell (g := gs) dM j), (HN).dJ⟩ (fun hHeld => ?_)
  clear hK K
  refine fH (a' := ?_) ?_ ?_
  rotate_left
  ·show Act.put _ (some 16) _ = _
   simp only [Act.put, zA, zZ, zS, aI, aJ]
   rfl
  refine puS (i := 9) (N := some 17) (v := ?_) (a' := ?_) rfl rfl (by kernel_rfl) (fun _ _ _ h => h) (Or.inl ⟨by rfl, ?_⟩) ?_ ?_
  rotate_left
  ·intro w'
   go_simp
   with_reducible rfl
  rotate_left
  ·simp only [Act.put, zA, zZ, zS, aI, aJ]
   rfl
  refine puS (i := 10) (N := some 18) (v := ?_) (a' := ?_) rfl rfl (by kernel_rfl) (fun _ _ _ h => h) (Or.inl ⟨by rfl, ?_⟩) ?_ ?_
  rotate_left
  ·intro w'
   go_simp
   with_reducible rfl
  rotate_left
  ·simp only [Act.put, zA, zZ, zS, aI, aJ]
   rfl
  refine laS (i := 11) (N := some 19) rfl rfl (by kernel_rfl) (by decide) (fun K hK => ?_)
  refine wO Tryz.func55 (by kernel_rfl) rfl #[.pointer (some ⟨gl, 0, none⟩), .agg #[.slice A5 L1.l.length c5, .bool L1.dn, .int .i64 L1.fu, .int .i64 L1.fa, .int .i64 L1.size, .int .u64 L1.fr, .int .u64 L1.nx, .bool L1.br], .int .i64 e1] (by rfl) rfl rfl (by simp only [List.map_toArray, List.map_cons, List.map_nil]; rfl) ?_
  refine (log_any gl A c B d Q A5 c5 L1 e1 (rs := oO A5 c5 L1.l :: row k67 67 (.slice A (Q.L.l).length c) Q.L.l :: row k41 41 (.slice B (Q.es).length d) Q.es :: box gs [.int .u64 q] 28 :: ts) ⟨HN.jK⟩).mono ?_
  rintro e w7 ⟨hE, H4⟩
  rcases hE with ⟨hz, rfl⟩ | ⟨hnz, rfl⟩
  rotate_left
  ·refine .inr ⟨_, rfl, ?_⟩
   have hV : R = (⟨L1, Q.es, Q.most⟩, e1) := by rw [HR.out, zK, HIX.out]; simp only [HL1.out]; rw [if_neg hnz]
   show _ ∧ _
   rw [hV]
   exact ⟨rfl, .inr ⟨hnz, rfl⟩, A5, c5, B, d, ⟨H4.out.drop2⟩⟩
  refine .inl ⟨_, rfl, ?_⟩
  refine hK.out _ _ ?_
  clear hK K
  refine fH (a' := ?_) ?_ ?_
  rotate_left
  ·show Act.put _ (some 19) _ = _
   simp only [Act.put, zA, zZ, zS, aI, aJ]
   rfl
  refine jT (by kernel_rfl) ?_
  have n_ : aC (Sep b w7 (box gl [.slice A5 L1.l.length c5, .bool L1.dn, .int .i64 L1.fu, .int .i64 L1.fa, .int .i64 L1.size, .int .u64 L1.fr, .int .u64 L1.nx, .bool L1.br, .slice B Q.es.length d, .int .i64 Q.most] 101 :: row k67 67 (.slice A5 (L1.l).length c5) L1.l :: row k41 41 (.slice B (Q.es).length d) Q.es :: box gs [.int .u64 q] 28 :: ts)) := ⟨H4.out.drop2⟩
  clear H4 HN HJ hHeld
  clear H c_l c_s
  have H := n_
  clear n_
  have c_l := H.out.cell (g := gl) aQ
  have z_l := H.out.frozen (g := gl) aQ
  have c_s := H.out.cell (g := gs) mem3
  subst hz
  obtain ⟨gp, hgp⟩ := uM (B := B) (d := d) (es := Q.es) H.out mem2 (by have := HIL.out; omega)
  subst hgp
  have hi1 : wrap64 ((i : Int) + 1) = (i : Int) + 1 := by
   have h1 := HIL.out
   have h2 := HEL.out
   unfold wrap64
   omega
  go_wp2_with fail
  try rw [hi1]
  refine (sO (i := i) HIL.out HEL.out ⟨H.out.gY⟩).mono ?_
  rintro e wd2 ⟨rfl, H4⟩
  obtain ⟨es2, hes2⟩ : ∃ es2, es2 = Q.es.eraseIdx i := ⟨_, rfl⟩
  rw [← hes2] at H4 ⊢
  have HE2 := aC.mk hes2
  have HS2 : aC (∀ x ∈ es2, 0 ≤ x.f0 ∧ x.f0 < Q.L.nx) := ⟨fun x hx => HES.out x (by rw [hes2] at hx; exact List.mem_of_mem_eraseIdx hx)⟩
  have HN1 := aC.mk (qaD HL1.out)
  clear hes2
  have n_ : aC (Sep b wd2 (row k41 41 (.slice (some ⟨gp, 0, none⟩) (es2).length d) es2 :: box gl [.slice A5 L1.l.length c5, .bool L1.dn, .int .i64 L1.fu, .int .i64 L1.fa, .int .i64 L1.size, .int .u64 L1.fr, .int .u64 L1.nx, .bool L1.br, .slice (some ⟨gp, 0, none⟩) Q.es.length d, .int .i64 Q.most] 101 :: row k67 67 (.slice A5 (L1.l).length c5) L1.l :: box gs [.int .u64 q] 28 :: ts)) := ⟨H4.out⟩
  clear H c_l z_l c_s
  have H := n_
  clear n_
  have c_l := H.out.cell (g := gl) mem1
  have z_l := H.out.frozen (g := gl) mem1
  have c_s := H.out.cell (g := gs) mem3
  clear H4
  cases hes : es2 with
  | nil =>
   rw [hes] at H HE2 HS2
   clear hes
   have hf0 : 0 ≤ L1.nx := by have h1 := HN1.out; have h2 := HNX.out; omega
   have HDR := aC.mk (fun A c w hr hc hG => TB A c L1 L1.nx hf0 w hr hc hG (by have h1 := HN1.out; have h2 := HNX.out; omega) (by have h1 := HN1.out; omega))
   obtain ⟨L2, e2, hL2⟩ : ∃ L2 e2, kH L1 L1.nx = (L2, e2) := ⟨_, _, rfl⟩
   rw [hL2] at HDR
   have hRV : R = (⟨L2, [], Q.most⟩, e2) := by
    rw [HR.out, zK, HIX.out]
    simp only [HL1.out, ← HE2.out, uN, if_true, hL2]
   have HRV := aC.mk hRV
   clear hRV hL2 hf0
   go_wp2_with (first
 |((with_reducible refine aX (t := 31) (p := 32) rfl ?_);
   refine bM (rs1 := (row k41 41 (.slice (some ⟨gp, 0, none⟩) ([]).length d) ([]) :: box gl [.slice A5 L1.l.length c5, .bool L1.dn, .int .i64 L1.fu, .int .i64 L1.fa, .int .i64 L1.size, .int .u64 L1.fr, .int .u64 L1.nx, .bool L1.br, .slice (some ⟨gp, 0, none⟩) 0 d, .int .i64 Q.most] 101 :: row k67 67 (.slice A5 (L1.l).length c5) L1.l :: box gs [.int .u64 q] 28 :: ts)) rfl (t := 31) (p := 32) rfl rfl ?hr (H1 := (Sep.set1 H.out 8 (.slice (some ⟨gp, 0, none⟩) 0 d) rfl)) ?_;
   (case hr => first | (go_simp; done) | (go_simp; rfl));
   intro wd3 n_;
   clear H c_l z_l c_s;
   have H := n_;
   clear n_;
   have c_l := H.out.cell (g := gl) mem1;
   have z_l := H.out.frozen (g := gl) mem1;
   have c_s := H.out.cell (g := gs) mem3)
 |fail)
   refine ((HDR.out A5 c5 _ (H.out.reads mem2).2.2 (H.out.reads mem2).2.1 (HG.out.below H.out.below)).mono ?_)
   rintro e wd4 ⟨A6, c6, rfl, HJ⟩
   have n_ : aC (Sep b wd4 (row k67 67 (.slice A6 (L2.l).length c6) L2.l :: row k41 41 (.slice (some ⟨gp, 0, none⟩) ([]).length d) ([]) :: box gl [.slice A5 L1.l.length c5, .bool L1.dn, .int .i64 L1.fu, .int .i64 L1.fa, .int .i64 L1.size, .int .u64 L1.fr, .int .u64 L1.nx, .bool L1.br, .slice (some ⟨gp, 0, none⟩) 0 d, .int .i64 Q.most] 101 :: row k67 67 (.slice A5 (L1.l).length c5) L1.l :: box gs [.int .u64 q] 28 :: ts)) := ⟨gX H.out HJ.out⟩
   clear H c_l z_l c_s
   have H := n_
   clear n_
   have c_l := H.out.cell (g := gl) mem2
   have z_l := H.out.frozen (g := gl) mem2
   have c_s := H.out.cell (g := gs) dM
   clear HJ
   simp only [lgc]
   clear HDR
   go_wp2_with fail
   refine (log_any gl A5 c5 (some ⟨gp, 0, none⟩) d ⟨L1, [], Q.most⟩ A6 c6 L2 e2 (rs := row k67 67 (.slice A6 (L2.l).length c6) L2.l :: row k41 41 (.slice (some ⟨gp, 0, none⟩) ([]).length d) ([]) :: row k67 67 (.slice A5 (L1.l).length c5) L1.l :: box gs [.int .u64 q] 28 :: ts) ⟨(Sep.iL (Sep.jQ (Sep.jQ (Sep.iL (Sep.iL H.out)))))⟩).mono ?_
   rintro e wd5 ⟨hE, H4⟩
   rcases hE with ⟨hz, rfl⟩ | ⟨hnz, rfl⟩
   ·
    subst hz
    go_wp2_with fail
    go_end0
    rw [HRV.out]
    exact ⟨.inl ⟨rfl, rfl⟩, A6, c6, (some ⟨gp, 0, none⟩), d, ⟨(Sep.jU H4.out)⟩⟩
   ·
    try go_wp2_with fail
    show _ ∧ _
    rw [HRV.out]
    exact ⟨rfl, .inr ⟨hnz, rfl⟩, A6, c6, (some ⟨gp, 0, none⟩), d, ⟨(Sep.jU H4.out)⟩⟩
  | cons x0 r0 =>
   rw [hes] at H HE2 HS2
   clear hes
   have hf0 : 0 ≤ x0.f0 := (HS2.out x0 (List.mem_cons_self ..)).1
   have HDR := aC.mk (fun A c w hr hc hG => TB A c L1 x0.f0 hf0 w hr hc hG (by have h1 := HN1.out; have h2 := HNX.out; omega) (by have h1 := HN1.out; omega))
   obtain ⟨L2, e2, hL2⟩ : ∃ L2 e2, kH L1 x0.f0 = (L2, e2) := ⟨_, _, rfl⟩
   rw [hL2] at HDR
   have hRV : R = (⟨L2, x0 :: r0, Q.most⟩, e2) := by
    rw [HR.out, zK, HIX.out]
    simp only [HL1.out, ← HE2.out, uN, if_true, hL2]
   have HRV := aC.mk hRV
   clear hRV hL2 hf0
   obtain ⟨k0, k1, k2, -⟩ := tY (gp := gp) (d := d) (i := 0) (x := x0) H.out aQ rfl
   simp only [Nat.zero_mul, Nat.zero_add] at k0 k1 k2
   clear k1 k2
   go_wp2_with (first
 |((with_reducible refine aX (t := 31) (p := 32) rfl ?_);
   refine bM (rs1 := (row k41 41 (.slice (some ⟨gp, 0, none⟩) ((x0 :: r0)).length d) ((x0 :: r0)) :: box gl [.slice A5 L1.l.length c5, .bool L1.dn, .int .i64 L1.fu, .int .i64 L1.fa, .int .i64 L1.size, .int .u64 L1.fr, .int .u64 L1.nx, .bool L1.br, .slice (some ⟨gp, 0, none⟩) (x0 :: r0).length d, .int .i64 Q.most] 101 :: row k67 67 (.slice A5 (L1.l).length c5) L1.l :: box gs [.int .u64 q] 28 :: ts)) rfl (t := 31) (p := 32) rfl rfl ?hr (H1 := (Sep.set1 H.out 8 (.slice (some ⟨gp, 0, none⟩) (x0 :: r0).length d) rfl)) ?_;
   (case hr => first | (go_simp; done) | (go_simp; rfl));
   intro wd6 n_;
   clear H c_l z_l c_s;
   have H := n_;
   clear n_;
   have c_l := H.out.cell (g := gl) mem1;
   have z_l := H.out.frozen (g := gl) mem1;
   have c_s := H.out.cell (g := gs) mem3;
   obtain ⟨m0, _, _, _⟩ := tY (gp := gp) (d := d) (i := 0) (x := x0) H.out aQ rfl;
   simp only [Nat.zero_mul] at m0;
   clear k0)
 |fail)
   refine ((HDR.out A5 c5 _ (H.out.reads mem2).2.2 (H.out.reads mem2).2.1 (HG.out.below H.out.below)).mono ?_)
   rintro e wd7 ⟨A6, c6, rfl, HJ⟩
   have n_ : aC (Sep b wd7 (row k67 67 (.slice A6 (L2.l).length c6) L2.l :: row k41 41 (.slice (some ⟨gp, 0, none⟩) ((x0 :: r0)).length d) ((x0 :: r0)) :: box gl [.slice A5 L1.l.length c5, .bool L1.dn, .int .i64 L1.fu, .int .i64 L1.fa, .int .i64 L1.size, .int .u64 L1.fr, .int .u64 L1.nx, .bool L1.br, .slice (some ⟨gp, 0, none⟩) (x0 :: r0).length d, .int .i64 Q.most] 101 :: row k67 67 (.slice A5 (L1.l).length c5) L1.l :: box gs [.int .u64 q] 28 :: ts)) := ⟨gX H.out HJ.out⟩
   clear H c_l z_l c_s
   have H := n_
   clear n_
   have c_l := H.out.cell (g := gl) mem2
   have z_l := H.out.frozen (g := gl) mem2
   have c_s := H.out.cell (g := gs) dM
   clear HJ
   simp only [lgc]
   clear HDR
   go_wp2_with fail
   refine (log_any gl A5 c5 (some ⟨gp, 0, none⟩) d ⟨L1, (x0 :: r0), Q.most⟩ A6 c6 L2 e2 (rs := row k67 67 (.slice A6 (L2.l).length c6) L2.l :: row k41 41 (.slice (some ⟨gp, 0, none⟩) ((x0 :: r0)).length d) ((x0 :: r0)) :: row k67 67 (.slice A5 (L1.l).length c5) L1.l :: box gs [.int .u64 q] 28 :: ts) ⟨(Sep.iL (Sep.jQ (Sep.jQ (Sep.iL (Sep.iL H.out)))))⟩).mono ?_
   rintro e wd8 ⟨hE, H4⟩
   rcases hE with ⟨hz, rfl⟩ | ⟨hnz, rfl⟩
   ·
    subst hz
    go_wp2_with fail
    go_end0
    rw [HRV.out]
    exact ⟨.inl ⟨rfl, rfl⟩, A6, c6, (some ⟨gp, 0, none⟩), d, ⟨(Sep.jU H4.out)⟩⟩
   ·
    try go_wp2_with fail
    show _ ∧ _
    rw [HRV.out]
    exact ⟨rfl, .inr ⟨hnz, rfl⟩, A6, c6, (some ⟨gp, 0, none⟩), d, ⟨(Sep.jU H4.out)⟩⟩
 ·
  try go_wp2_with fail
  have hV : R = (Q, 19) := by rw [HR.out, zK, hix]
  show _ ∧ _
  rw [hV]
  exact ⟨rfl, .inr ⟨show (19 : Int) ≠ 0 by decide, rfl⟩, A, c, B, d, H⟩
end Go.Proofs.U
