import Derived.Test.YtanonhipicoigaaGreatDoorZSai
import Derived.Test.YtanonhipicoigaaGreatDoorZSao
import Derived.Test.YtanonhipicoigaaGreatDoorZSag
set_option linter.unusedVariables false
set_option linter.unusedSimpArgs false
set_option maxRecDepth 100000
namespace Go.Proofs.Sp
open Go.RowKit Go.Proofs.YW.PrintWords Go.Proofs.YW.PrintLast Go.Proofs.YW.PrintMore
section
variable {P : Program} {ops : Array Oper} {oi : Oper} {a : Act} {Q : Exit → Act → World → Prop} {K : Act → World → Prop} {b W : World} {rs : List Res}
theorem TF {N : Option Tmp} (hw : Region.wanted oi (yielded ops a.tmps) = true) (hN : oi.dst = N) (H : Sep b W rs) (cs : List Value) (e : TypeId) (n : Nat)
  (hrun : (execOp a.eval oi).run P W = .ok (.value (.slice (some ⟨W.heap.size, 0, none⟩) n n)) (W.alloc (.cells cs.toArray e (0, 0))))
  (h : ∀ g W', Sep b W' (box g cs e :: rs) → K (a.put N (.slice (some ⟨g, 0, none⟩) n n)) W') : if Region.wanted oi (yielded ops a.tmps) = true then Oper.wp P oi a W K Q else K (a.put N undef) W :=
 JH hw hN hrun (h _ _ (H.alloc cs e))
theorem JD {N : Option Tmp} (hw : Region.wanted oi (yielded ops a.tmps) = true) (hN : oi.dst = N) (H : Sep b W rs) (cs : List Value) (e : TypeId)
  (hrun : (execOp a.eval oi).run P W = .ok (.value (.pointer (some ⟨W.heap.size, 0, none⟩))) (W.alloc (.cells cs.toArray e (0, 0))))
  (h : ∀ g W', Sep b W' (box g cs e :: rs) → K (a.put N (.pointer (some ⟨g, 0, none⟩))) W') : if Region.wanted oi (yielded ops a.tmps) = true then Oper.wp P oi a W K Q else K (a.put N undef) W :=
 JH hw hN hrun (h _ _ (H.alloc cs e))
theorem zL {α : Type} (d : Kd α) (hd : Flat d) (hw : Region.wanted oi (yielded ops a.tmps) = true) (s x : Operand) (t e : TypeId) (z : Value) (bytes : Nat)
  (ho : oi.op = .call { callee := .builtin .append, args := #[s, x], argTypes := #[t, t] })
  (ht : P.underlying t = some (.slice e)) (hinfo : (P.info? e).map (fun i => (i.zero, i.size, i.bytes)) = some (some z, d.sz, bytes)) (hz : z.cells.size = d.sz) (hs0 : 0 < d.sz) (hb0 : 0 < bytes)
  (v : Value) (xs ys : List α) (A : Option Addr) (c : Nat) (hs : a.eval s = v) (hx : a.eval x = .slice A ys.length c)
  (HR : d.C W A ys.length ys) (hKM : ∀ x cs, d.K W x cs → d.M W 0 (fun _ => False) x cs) (H : Sep b W (row d e v xs :: rs)) (hl : (xs.length + ys.length) * bytes ≤ 140737488355328)
  (h : ∀ A1 c1 W', Sep b W' (row d e (.slice A1 (xs ++ ys).length c1) (xs ++ ys) :: rs) → K (a.put oi.dst (.slice A1 (xs ++ ys).length c1)) W') :
  if Region.wanted oi (yielded ops a.tmps) = true then Oper.wp P oi a W K Q else K (a.put oi.dst undef) W := by
 have hr : d.R e W 0 (fun k => v.ownBlock = some k) v xs := H.all (row d e v xs) (by simp)
 refine Kd.kX d (w0 := W) 0 hw s x t e z bytes ho ht hinfo hz hs0 hb0 v xs ys A ys.length c (fun k => v.ownBlock = some k ∨ W.heap.size ≤ k) (fun _ => False) hs hx
  (Kd.uK hr (fun k hk => .inl hk)) HR hKM (fun _ hk => hk.elim) (fun k hk => .inr hk) (Below.refl _ _) (Nat.zero_le _) hl ?_
 intro v1 w1 ho1 _ hg hat
 obtain ⟨A1, c1, rfl⟩ := Kd.dQ ho1
 refine h A1 c1 w1 (H.qct (r' := row d e (.slice A1 (xs ++ ys).length c1) (xs ++ ys)) (Upd.xH hg) (Kd.JK hd ho1 (fun k hk _ => hk)) (fun k hk => ?_))
 have hk' : (Value.slice A1 (xs ++ ys).length c1).ownBlock = some k := hk
 rcases hat with e1 | ⟨b1, e1, hb1⟩
 ·exact .inl (show v.ownBlock = some k by rw [← e1]; exact hk')
 ·rw [e1] at hk'
  injection hk' with hk'
  exact .inr (by omega)
theorem qdb {rest : List Oper} (hgd : oi.guard = none) (H : aA (Sep b W rs)) (cs : List Value) (e : TypeId) (n : Nat)
  (hrun : (execOp a.eval oi).run P W = .ok (.value (.slice (some ⟨W.heap.size, 0, none⟩) n n)) (W.alloc (.cells cs.toArray e (0, 0))))
  (h : ∀ g W', aA (Sep b W' (box g cs e :: rs)) → wpList P ops Q rest (a.put oi.dst (.slice (some ⟨g, 0, none⟩) n n)) W') : wpList P ops Q (oi :: rest) a W :=
 Kd.uX hgd hrun (h _ _ ⟨H.out.alloc cs e⟩)
theorem qdc {α : Type} {d : Kd α} {e : TypeId} {g : Nat} {cs : List Value} {l : List α} (hr : fM (d.M W 0 (fun k => (k = g) ∧ some k ≠ (Value.slice (some ⟨g, 0, none⟩) l.length l.length).ownBlock)) d.sz l cs) (hlen : l.length ≤ 1000000) (H : Sep b W (box g cs e :: rs)) : Sep b W (row d e (.slice (some ⟨g, 0, none⟩) l.length l.length) l :: rs) := by
 have hb : W.heap[g]? = some (.cells cs.toArray e (0, 0)) := H.jK (g := g) aJ
 refine H.qct (r' := row d e (.slice (some ⟨g, 0, none⟩) l.length l.length) l) (Upd.refl _ _) ?_ (fun k hk => .inl ?_)
 ·refine ⟨fun k hk => hk, cs, ⟨hr.1, .inr ⟨g, l.length, cs.toArray, rfl, Nat.zero_le _, hb, Nat.le_refl _, by unfold maxLen; omega, by simpa using hr.1, ?_⟩⟩, hr.uV (fun p c hp => d.jB (fun k hk => ⟨by rw [hk.1]; rfl, hk.2⟩) hp)⟩
  rw [← hr.1]
  simp
 ·have : some g = some k := hk
  injection this with this
  exact this.symm
end
end Go.Proofs.Sp
namespace Go.Proofs.U
open Go.Proofs.UE (lQ sO)
open Go.RowKit Go.Proofs.YW.PrintWords Go.Proofs.YW.PrintLast Go.Proofs.YW.PrintMore Go.Proofs.Sp Go.Proofs.fG
def sH (p : S41 → Bool) : List S41 → Option Nat
 | [] => none
 | x :: r => if p x = true then some 0 else (sH p r).map (· + 1)
def FH (p : S41 → Bool) (l : List S41) : Int := match sH p l with | some i => (i : Int) | none => -1
theorem yF {p : S41 → Bool} : ∀ {l : List S41} {i : Nat}, sH p l = some i → ∃ x, l[i]? = some x ∧ p x = true ∧ ∀ j y, j < i → l[j]? = some y → p y = false
 | [], i, h => by cases h
 | x :: r, i, h => by
  rw [sH] at h
  split at h
  ·rename_i hp
   injection h with h
   subst h
   exact ⟨x, rfl, hp, fun j y hj => by omega⟩
  ·rename_i hp
   cases hr : sH p r with
   | none => rw [hr] at h; cases h
   | some k =>
    rw [hr] at h
    have h : k + 1 = i := by simpa using h
    subst h
    obtain ⟨y, h1, h2, h3⟩ := yF hr
    refine ⟨y, h1, h2, fun j z hj hz => ?_⟩
    cases j with
    | zero =>
     have : x = z := by simpa using hz
     rw [← this]
     simpa using hp
    | succ j => exact h3 j z (by omega) (by simpa using hz)
theorem QE {p : S41 → Bool} {l : List S41} {i : Nat} (h : sH p l = some i) : i < l.length := by
 obtain ⟨x, hx, _⟩ := yF h
 exact (List.getElem?_eq_some_iff.1 hx).1
theorem qii {w : World} {ad : Addr} {n i : Nat} {l : List S41} {x : S41} (h : Kd.C k41 w (some ad) n l) (hx : l[i]? = some x) :
  w.cell? (ad.add (i * 3)) = some (.int .u64 x.f0) ∧ w.cell? ⟨(ad.add (i * 3)).block, (ad.add (i * 3)).off + 1, none⟩ = some (.string x.f1) ∧ w.cell? ⟨(ad.add (i * 3)).block, (ad.add (i * 3)).off + 2, none⟩ = some (.bool x.f2) := by
 have hi := (List.getElem?_eq_some_iff.1 hx).1
 obtain ⟨ad2, c, e, _, hK, hc0⟩ := Kd.C9 h z41 (i : Int) (by omega) (by have := h.1; omega)
 injection e with e
 subst e
 have hg : l.getD i z41 = x := by simp [List.getD, hx]
 simp only [Int.toNat_natCast] at hK hc0
 rw [hg] at hK
 have hc : ∀ j u, c[j]? = some u → w.cell? (ad.add (i * 3 + j)) = some u := hc0
 obtain rfl := DF hK
 exact ⟨hc 0 _ rfl, by rw [← jR _ _ 1 (by omega)]; exact hc 1 _ rfl, by rw [← jR _ _ 2 (by omega)]; exact hc 2 _ rfl⟩
theorem qfi {w : World} {A : Option Addr} {n : Nat} {l : List S41} (h : Kd.C k41 w A n l) (hn : 0 < n) : ∃ ad, A = some ad := by
 obtain ⟨ad2, c, e, _⟩ := Kd.C9 h z41 0 (by omega) (by omega)
 exact ⟨ad2, e⟩
set_option maxHeartbeats 4000000 in
theorem NH (p : S41 → Bool) (fdo : Nat) (lb : List Value) (B : Option Addr) (d : Nat) (es : List S41) (w : World) (hre : Kd.C k41 w B es.length es) (he : ∀ args w, (callFunc fdo args).run Tryz.prog w = .ok (.enter fdo args) w)
  (hp : ∀ (x : S41) (w' : World), Below w.heap.size w w' → Calls Tryz.prog fdo (.agg #[.int .u64 x.f0, .string x.f1, .bool x.f2] :: lb).toArray w' fun e w'' => e = .returned (.bool (p x)) ∧ Below w'.heap.size w' w'') :
  Calls Tryz.prog 57 #[.slice B es.length d, .func (.func fdo) #[] lb.toArray] w fun e w' => e = .returned (.int .i64 (FH p es)) ∧ Below w.heap.size w w' := by
 have HRe := aA.mk hre
 have HP := aA.mk hp
 have HL : aA (es.length ≤ 9223372036854775807) := ⟨Kd.WE hre⟩
 clear hre hp
 have HB := aA.mk (Below.refl w.heap.size w)
 go_enter Tryz.func57, Tryz.ntmps57
 go_wp2
 go_loopw [4, 5, 8] (fun v4 v5 v8 wr => ∃ i : Nat, v8 = .int .i64 (i : Int) ∧ i ≤ es.length ∧ aA (sH p es = (sH p (es.drop i)).map (· + i)) ∧ aA (Below w.heap.size w wr)) (fun _ _ v8 _ => es.length - (intOf v8).toNat)
 case atStart => exact ⟨0, rfl, Nat.zero_le _, ⟨by simp⟩, HB⟩
 case round =>
  clear HB
  obtain ⟨i, rfl, hi, HI, HB⟩ := hrel
  by_cases hil : i < es.length
  ·obtain ⟨x, hx⟩ : ∃ x, es[i]? = some x := ⟨_, List.getElem?_eq_getElem hil⟩
   have hd : es.drop i = x :: es.drop (i + 1) := by
    rw [List.drop_eq_getElem_cons hil]
    congr 1
    rw [List.getElem?_eq_getElem hil] at hx
    exact Option.some.inj hx
   have HD := aA.mk hd
   obtain ⟨ad, e1⟩ := qfi HRe.out (by omega)
   subst e1
   obtain ⟨q0, q1, q2⟩ := qii (Kd.fC HRe.out HB.out) hx
   have hi0 : (0 : Int) ≤ (i : Int) := by omega
   have hi1 : (i : Int) < (es.length : Int) := by omega
   have hw3 : wrap64 ((i : Int) + 1) = ((i + 1 : Nat) : Int) := by
    have := HL.out
    unfold wrap64
    omega
   clear hd hx
   go_wp2_with fail
   refine ((HP.out x _ HB.out).mono ?_)
   rintro e w5 ⟨rfl, hb⟩
   have n0_ := aA.mk (aX HB.out hb)
   clear HB q0 q1 q2 hb
   have HB := n0_
   clear n0_
   cases hpx : p x
   ·go_wp2_with fail
    try rw [hw3]
    refine ⟨⟨i + 1, rfl, by omega, ⟨?_⟩, HB⟩, by simp [intOf]; omega⟩
    rw [HI.out, HD.out, sH, if_neg (by rw [hpx]; simp), Option.map_map]
    congr 1
    funext k
    show k + 1 + i = k + (i + 1)
    omega
   ·have hres : FH p es = (i : Int) := by
     rw [FH, HI.out, HD.out, sH, if_pos hpx]
     simp
    go_wp2_with fail
    go_ret
    exact ⟨by first | rfl | (rw [hres]; rfl), HB.out⟩
  ·have hie : i = es.length := by omega
   subst hie
   have hres : FH p es = -1 := by
    rw [FH, HI.out, List.drop_length]
    rfl
   have hin : ¬ (es.length : Int) < (es.length : Int) := by omega
   go_wp2_with fail
   go_ret
   exact ⟨by first | rfl | (rw [hres]; rfl), HB.out⟩
set_option maxHeartbeats 4000000 in
theorem qet (x : S41) (w : World) : Calls Tryz.prog 58 #[.agg #[.int .u64 x.f0, .string x.f1, .bool x.f2]] w fun e w' => e = .returned (.bool (!x.f2)) ∧ Below w.heap.size w w' := by
 have H := aA.mk (Sep.start w)
 go_enter Tryz.func58, Tryz.ntmps58
 go_wp2_with (first
 |((with_reducible refine aP (N := 1) rfl ?_);
   refine bG rfl H (cs := [.int .u64 x.f0, .string x.f1, .bool x.f2]) (t := 41) ?hr ?_;
   (case hr => first | (go_simp; done) | (go_simp; rfl));
   intro gx wd1 n_;
   simp only [Act.put, zA, zZ, zS];
   clear H;
   have H := n_;
   clear n_;
   have c_x := H.out.cell (g := gx) aJ)
 |fail)
 go_ret
 exact ⟨rfl, H.out.below⟩
set_option maxHeartbeats 4000000 in
theorem qdd (x : S41) (g1 : Nat) (q : Int) (w : World) (hb : w.heap[g1]? = some (.cells #[.int .u64 q] 28 (0, 0))) : Calls Tryz.prog 102 #[.agg #[.int .u64 x.f0, .string x.f1, .bool x.f2], .pointer (some ⟨g1, 0, none⟩)] w fun e w' => e = .returned (.bool (x.f0 == q && x.f2)) ∧ Below w.heap.size w w' := by
 have HQ := aA.mk hb
 clear hb
 have H := aA.mk (Sep.start w)
 go_enter Tryz.func102, Tryz.ntmps102
 by_cases hq : x.f0 = q
 ·
  have hqb : (x.f0 == q) = true := by simpa using hq
  clear hq
  go_wp2_with (first
 |((with_reducible refine aP (N := 2) rfl ?_);
   refine bG rfl H (cs := [.int .u64 x.f0, .string x.f1, .bool x.f2]) (t := 41) ?hr ?_;
   (case hr => first | (go_simp; done) | (go_simp; rfl));
   intro gx wd2 n_;
   simp only [Act.put, zA, zZ, zS];
   clear H;
   have H := n_;
   clear n_;
   have c_x := H.out.cell (g := gx) aJ;
   have c_q := aG (bD HQ.out H.out.below) 0)
 |fail)
  go_ret
  refine ⟨?_, H.out.below⟩
  simp [hqb]
 ·
  have hqb : (x.f0 == q) = false := by simpa using hq
  clear hq
  go_wp2_with (first
 |((with_reducible refine aP (N := 2) rfl ?_);
   refine bG rfl H (cs := [.int .u64 x.f0, .string x.f1, .bool x.f2]) (t := 41) ?hr ?_;
   (case hr => first | (go_simp; done) | (go_simp; rfl));
   intro gx wd3 n_;
   simp only [Act.put, zA, zZ, zS];
   clear H;
   have H := n_;
   clear n_;
   have c_x := H.out.cell (g := gx) aJ;
   have c_q := aG (bD HQ.out H.out.below) 0)
 |fail)
  go_ret
  refine ⟨?_, H.out.below⟩
  simp [hqb]
def lK (q : Int) (x : S41) : Bool := x.f0 == q && x.f2
def VO (o : Option Nat) (e : Ending) : Prop := (∃ i : Nat, o = some i ∧ e = .returned (.int .i64 (i : Int))) ∨ (o = none ∧ e = .panicked [{ v := .iface 34 (.int .i64 19), recovered := false }])
set_option maxHeartbeats 4000000 in
theorem AX {b w : World} {rs : List Res} (gl : Nat) (A : Option Addr) (c : Nat) (B : Option Addr) (d : Nat) (Q : Qu) (q : Int) (H0 : aA (Sep b w (box gl (qc A c B d Q) 101 :: oJ A c Q.L.l :: qH B d Q.es :: rs))) :
  Calls Tryz.prog 60 #[.pointer (some ⟨gl, 0, none⟩), .int .u64 q] w fun e w' => VO (sH (lK q) Q.es) e ∧ aA (Sep b w' (box gl (qc A c B d Q) 101 :: oJ A c Q.L.l :: qH B d Q.es :: rs)) := by
 have H : aA (Sep b w (box gl [.slice A Q.L.l.length c, .bool Q.L.dn, .int .i64 Q.L.fu, .int .i64 Q.L.fa, .int .i64 Q.L.size, .int .u64 Q.L.fr, .int .u64 Q.L.nx, .bool Q.L.br, .slice B Q.es.length d, .int .i64 Q.most] 101 :: row k67 67 (.slice A (Q.L.l).length c) Q.L.l :: row k41 41 (.slice B (Q.es).length d) Q.es :: rs)) := H0
 clear H0
 have c_l := H.out.cell (g := gl) aJ
 have hmf : ∀ (fn : Fn) (first cap : Array Value) (w : World), (Instr.makeFunc fn first cap).run Tryz.prog w = .ok (.func fn first cap) w := fun _ _ _ _ => rfl
 go_enter Tryz.func60, Tryz.ntmps60
 go_wp2_with (first
 |((with_reducible refine aP (N := 3) rfl ?_);
   refine bG rfl H (cs := [.int .u64 q]) (t := 28) ?hr ?_;
   (case hr => first | (go_simp; done) | (go_simp; rfl));
   intro gs wd4 n_;
   simp only [Act.put, zA, zZ, zS];
   clear H c_l;
   have H := n_;
   clear n_;
   have c_s := H.out.cell (g := gs) aJ;
   have c_l := H.out.cell (g := gl) mem1)
 |fail)
 refine ((NH (lK q) 102 [.pointer (some ⟨gs, 0, none⟩)] B d Q.es _ (H.out.reads mem3).2.2 (fun args w => by simp [go_sem]) (fun x w' hb => qdd x gs q w' (bD (H.out.jK (g := gs) aJ) hb))).mono ?_)
 rintro e wd5 ⟨rfl, hb_⟩
 have n_ : aA (Sep b wd5 (box gs [.int .u64 q] 28 :: box gl [.slice A Q.L.l.length c, .bool Q.L.dn, .int .i64 Q.L.fu, .int .i64 Q.L.fa, .int .i64 Q.L.size, .int .u64 Q.L.fr, .int .u64 Q.L.nx, .bool Q.L.br, .slice B Q.es.length d, .int .i64 Q.most] 101 :: row k67 67 (.slice A (Q.L.l).length c) Q.L.l :: row k41 41 (.slice B (Q.es).length d) Q.es :: rs)) := ⟨H.out.step hb_⟩
 clear H c_s c_l
 have H := n_
 clear n_
 have c_s := H.out.cell (g := gs) aJ
 have c_l := H.out.cell (g := gl) mem1
 clear hb_
 cases hix : sH (lK q) Q.es with
 | none =>
  have hi : FH (lK q) Q.es = -1 := by rw [FH, hix]
  rw [hi]
  go_wp2_with fail
  refine (vJ 19 _).mono ?_
  rintro e w_ ⟨rfl, rfl⟩
  exact ⟨rfl, .inr ⟨hix, rfl⟩, ⟨(Sep.dV H.out)⟩⟩
 | some i =>
  have hi : FH (lK q) Q.es = (i : Int) := by rw [FH, hix]
  rw [hi]
  have hi0 : (0 : Int) ≤ (i : Int) := by omega
  go_wp2_with fail
  refine (sN 19 _).mono ?_
  rintro e w_ ⟨rfl, rfl⟩
  go_wp2_with fail
  go_ret
  exact ⟨.inl ⟨i, hix, rfl⟩, ⟨(Sep.dV H.out)⟩⟩
theorem qde (W : World) (ok : Nat → Prop) (x : Int) : fM ((Kd.int .u8).M W 0 ok) (Kd.int .u8).sz [x] [.int .u8 x] := by
 refine ⟨rfl, fun j p hj => ?_⟩
 have hj0 : j = 0 := by
  have := (List.getElem?_eq_some_iff.1 hj).1
  simpa using this
 subst hj0
 have : x = p := by simpa using hj
 subst this
 rfl
def qdf (n : Int) : List Int := 65 :: rM n 8
def lM (n : Int) : ByteArray := strOfNums (qdf n)
theorem NI (n : Int) : (lM n).size = 9 := by rw [lM, strOfNums_size]; simp [qdf, rM]
set_option maxHeartbeats 4000000 in
theorem qao (n : Int) (w : World) (hn : 0 ≤ n) (hn2 : n < 18446744073709551616) : Calls Tryz.prog 61 #[.int .u64 n] w fun e w' => e = .returned (.string (lM n)) ∧ Below w.heap.size w w' := by
 have H := aA.mk (Sep.start w)
 go_enter Tryz.func61, Tryz.ntmps61
 go_wp2_with (first
 |((with_reducible refine aP (N := 5) rfl ?_);
   refine qdb rfl H [.int .u8 65] 5 1 ?hr ?_;
   (case hr => first | (go_simp; done) | (go_simp; rfl));
   intro go wd6 m_;
   have n_ := aA.mk (qdc (d := Kd.int .u8) (l := [(65 : Int)]) (qde _ _ _) (by decide) m_.out);
   clear m_;
   simp only [Act.put, zA, zZ, zS];
   clear H;
   have H := n_;
   clear n_)
 |fail)
 go_loopw [3, 4] (fun v3 v4 wr => ∃ (k : Nat) (A : Option Addr) (c : Nat) (ys : List Int), v3 = .slice A ys.length c ∧ v4 = .int .i64 ((8 * k : Nat) : Int) ∧ k ≤ 8 ∧ ys.length ≤ 9 ∧ aA (ys = 65 :: rM n k) ∧ aA (Sep w wr [row (Kd.int .u8) 5 (.slice A ys.length c) ys]))
  (fun _ v4 _ => 64 - (intOf v4).toNat)
 case atStart => exact ⟨0, some ⟨go, 0, none⟩, 1, [65], rfl, rfl, by omega, by decide, ⟨rfl⟩, H⟩
 case round =>
  clear H
  obtain ⟨k, A, c, ys, rfl, rfl, hk, hy, HY, H⟩ := hrel
  by_cases hlt : k < 8
  ·have hk2 : ((8 * k : Nat) : Int) < 64 := by omega
   have hk0 : (0 : Int) ≤ ((8 * k : Nat) : Int) := by omega
   have hw3 : wrap64 (((8 * k : Nat) : Int) + 8) = ((8 * (k + 1) : Nat) : Int) := by
    unfold wrap64
    omega
   have hy2 : ys.length < 9 := by rw [HY.out]; simp [rM]; omega
   go_wp2_with (first
 |((with_reducible refine gY (b := .append) (xs := #[.tmp 10, .tmp 15]) rfl ?_); at_builtin;
   refine JO (Kd.int .u8) (QZ _) rfl (.tmp 10) (.tmp 15) 147 5 (.int .u8 0) 1 rfl Tryz.underlying147 info5 rfl (by decide) (by omega) _ ys (n / 2 ^ (8 * k) % 256) [.int .u8 (n / 2 ^ (8 * k) % 256)] rfl rfl ?hp H ?hl ?_;
   (case hp => rfl); (case hl => omega);
   intro A1 c1 w1 H1; clear H; have H := H1; clear H1;
   simp only [Act.put, zA, zZ, zS])
 |fail)
   try rw [hw3]
   refine ⟨⟨k + 1, A1, c1, ys ++ [n / 2 ^ (8 * k) % 256], ?_, rfl, by omega, ?_, ⟨by rw [HY.out, MQ]; rfl⟩, H⟩, by simp [intOf]; omega⟩
   ·rw [List.length_append, List.length_singleton]
   ·rw [List.length_append, List.length_singleton]
    omega
  ·obtain rfl : k = 8 := by omega
   have hs2 := Kd.xI (P := Tryz.prog) (src := 147) (dst := 9) (e := 5) (c := c) Tryz.underlying147 Tryz.underlying5 Tryz.underlying9 (H.out.reads aJ).2.2
   go_wp2_with fail
   go_ret
   exact ⟨by rw [HY.out]; rfl, H.out.below⟩
end Go.Proofs.U
namespace Go.Proofs.U
open Go.RowKit Go.Proofs.YW.PrintWords Go.Proofs.YW.PrintLast Go.Proofs.YW.PrintMore
attribute [local go_sem] iE iF jG jH gQ gU iJ iK
mutual
def bJ.j0 : Nat → Bool → List (S67) → Bool → Int → Int → Int → Int → Int → Bool → List (S41) → Int → Option (Int)
 | 0, _, _, _, _, _, _, _, _, _, _, _ => none
 | k + 1, x3, yT, yU, yV, yX, yY, wM, wO, yZ, uD, y5 => bJ.l0 k x3 wM uD (uD.length : Int) 0 yT yU yV yX yY wM wO yZ uD y5
def bJ.l0 : Nat → Bool → Int → List (S41) → Int → Int → List (S67) → Bool → Int → Int → Int → Int → Int → Bool → List (S41) → Int → Option (Int)
 | 0, _, _, _, _, _, _, _, _, _, _, _, _, _, _, _ => none
 | k + 1, x3, x4, x29, x30, x31, yT, yU, yV, yX, yY, wM, wO, yZ, uD, y5 => if x31 < x30 then (if 0 ≤ x31 then (if x31 < (x29.length : Int) then (if x3 = true then (if (((dN x29 x31).f1).size : Int) < 65536 then (if ((dN x29 x31).f0) ≥ x4 then (bJ.l0 k (decide (((dN x29 x31).f0) < wO)) (IntKind.u64.wrap (((dN x29 x31).f0) + 1)) x29 x30 (wrap64 (x31 + 1)) yT yU yV yX yY wM wO yZ uD y5) else (bJ.l0 k false (IntKind.u64.wrap (((dN x29 x31).f0) + 1)) x29 x30 (wrap64 (x31 + 1)) yT yU yV yX yY wM wO yZ uD y5)) else (bJ.l0 k false (IntKind.u64.wrap (((dN x29 x31).f0) + 1)) x29 x30 (wrap64 (x31 + 1)) yT yU yV yX yY wM wO yZ uD y5)) else (bJ.l0 k false (IntKind.u64.wrap (((dN x29 x31).f0) + 1)) x29 x30 (wrap64 (x31 + 1)) yT yU yV yX yY wM wO yZ uD y5)) else (none)) else (none)) else (if x3 = true then (some 0) else (some 6))
end
def bJ.f (k : Nat) (aW : List (S67)) (bV : Bool) (bW : Int) (bY : Int) (eX : Int) (fA : Int) (eH : Int) (fK : Bool) (eP : List (S41)) (iL : Int) : Option (Int) := (fP.f aW bV bW bY eX fA eH fK).bind fun t196 => (if t196 = 0 then (if iL ≥ 1 then (bJ.j0 k (decide ((mx iL (eP.length : Int)) ≤ 1024)) aW bV bW bY eX fA eH fK eP iL) else (bJ.j0 k false aW bV bW bY eX fA eH fK eP iL)) else (bJ.j0 k false aW bV bW bY eX fA eH fK eP iL))
set_option maxHeartbeats 8000000 in
theorem bJ.calls (k : Nat) (dO : Option Addr) (dP : Nat) (aW : List (S67)) (bV : Bool) (bW : Int) (bY : Int) (eX : Int) (fA : Int) (eH : Int) (fK : Bool) (DW : Option Addr) (qI : Nat) (eP : List (S41)) (iL : Int) (r : Int) (w : World) (jP : Kd.C k67 w dO aW.length aW) (lI : aW.length ≤ dP) (qdH : Kd.C k41 w DW eP.length eP) (qdI : eP.length ≤ qI) (h : bJ.f k aW bV bW bY eX fA eH fK eP iL = some r) :
    Calls Tryz.prog 39 #[.agg #[.slice dO aW.length dP, .bool bV, .int .i64 bW, .int .i64 bY, .int .i64 eX, .int .u64 fA, .int .u64 eH, .bool fK, .slice DW eP.length qI, .int .i64 iL]] w fun e w' => e = .returned (.int .i64 r) ∧ Below w.heap.size w w' := by
  have qjb := Tryz.underlying33
  have qh0 := Tryz.underlying30
  have qjc := Tryz.underlying41
  have zJ := aA.mk jP
  have zK := aA.mk lI
  clear jP lI
  have XF := aA.mk qdH
  have qiL := aA.mk qdI
  clear qdH qdI
  have HB := aA.mk (Below.refl w.heap.size w)
  have H : ((fP.f aW bV bW bY eX fA eH fK).bind fun t196 => (if t196 = 0 then (if iL ≥ 1 then (bJ.j0 k (decide ((mx iL (eP.length : Int)) ≤ 1024)) aW bV bW bY eX fA eH fK eP iL) else (bJ.j0 k false aW bV bW bY eX fA eH fK eP iL)) else (bJ.j0 k false aW bV bW bY eX fA eH fK eP iL))) = some r := h
  clear h
  have HC2 := aA.mk H
  clear H
  go_enter Tryz.func39, Tryz.ntmps39
  go_upto_region 1 with (first | ((with_reducible refine aP (N := 1) rfl ?_); (try (refine sV (by rfl) ?_; dsimp only)); refine dI ?hg (N := 1) ?hd (cs := #[.slice dO aW.length dP, .bool bV, .int .i64 bW, .int .i64 bY, .int .i64 eX, .int .u64 fA, .int .u64 eH, .bool fK, .slice DW eP.length qI, .int .i64 iL]) (t := 33) ?hr ?_; (case hd => rfl); (case hg => rfl); (case hr => first | (go_simp; done) | (go_simp; rfl)); intro cZ hg w3 hbox hb; have n0_ := aA.mk (aX (by repeat (first | (with_reducible first | exact HB.out | apply aQ | apply aT | apply aV) | exact HB.out)) hb); have n1_ := aA.mk (hbox); have n2_ := aA.mk ((by rw [hg]; exact (dW (by repeat (first | (with_reducible first | exact HB.out | apply aQ | apply aT | apply aV) | exact HB.out))) : w.heap.size ≤ cZ)); have n3_ := aA.mk ((by rw [hg]; exact (dW (by repeat (first | (with_reducible first | exact HB.out | apply aQ | apply aT | apply aV) | exact HB.out))) : w.heap.size ≤ cZ)); clear HB; have HB := n0_; have bC := n1_; have qiM := n2_; have lN := n3_; clear n0_ n1_ n2_ n3_; clear hb hbox hg))
  (try simp only [Act.put, zA, zZ, zS])
  go_cut [3] (fun v3 wc => ∃ (kq : Nat) (qdg : Bool), v3 = .bool qdg ∧ aA (bJ.j0 kq qdg aW bV bW bY eX fA eH fK eP iL = some r) ∧ aA (kq ≤ k) ∧ aA (wc.heap[cZ]? = some (.cells #[(.slice dO aW.length dP), .bool bV, .int .i64 bW, .int .i64 bY, .int .i64 eX, .int .u64 fA, .int .u64 eH, .bool fK, (.slice DW eP.length qI), .int .i64 iL] 33 (0, 0))) ∧ aA (Below w.heap.size w wc))
  case first =>
    have H := HC2.out
    clear HC2
    replace H := Option.bind_eq_some_iff.mp H
    obtain ⟨t196, A40, H⟩ := H
    replace H : (if t196 = 0 then (if iL ≥ 1 then (bJ.j0 k (decide ((mx iL (eP.length : Int)) ≤ 1024)) aW bV bW bY eX fA eH fK eP iL) else (bJ.j0 k false aW bV bW bY eX fA eH fK eP iL)) else (bJ.j0 k false aW bV bW bY eX fA eH fK eP iL)) = some r := H
    have A4 := aA.mk A40
    clear A40
    by_cases c5 : t196 = 0
    · rw [if_pos c5] at H
      have TG : (t196 == 0) = true := beq_iff_eq.mpr c5
      have qeu : (t196 != 0) = false := bne_eq_false_iff_eq.mpr c5
      clear c5
      (first | rw [TG] | (simp only [aH, aI]; rw [TG]) | skip)
      by_cases c6 : iL ≥ 1
      · rw [if_pos c6] at H
        have qdh : decide (1 ≤ iL) = true := decide_eq_true c6
        clear c6
        obtain ⟨ji7, qap⟩ : ∃ j_ : Int, (mx iL (eP.length : Int)) = j_ := ⟨_, rfl⟩
        replace H : (bJ.j0 k (decide ((ji7) ≤ 1024)) aW bV bW bY eX fA eH fK eP iL) = some r := by first | (rw [qap] at H; exact H) | (simp only [qap] at H ⊢; exact H)
        (try rw [qap] at A4)
        (try (have qiN : 0 ≤ ji7 := by (rw [← qap]; unfold mx; (repeat' split) <;> omega)))
        (try (have qiO : 0 ≤ ji7 := by omega))
        have qiP : (if iL < (eP.length : Int) then (eP.length : Int) else iL) = ji7 := qap
        have H' := aA.mk H
        clear H
        have U6 : w3.cell? ⟨cZ, 0, none⟩ = some (.slice dO aW.length dP) := (aG bC.out 0).trans rfl
        have U7 : w3.cell? ⟨cZ, 1, none⟩ = some (.bool bV) := (aG bC.out 1).trans rfl
        have U8 : w3.cell? ⟨cZ, 2, none⟩ = some (.int .i64 bW) := (aG bC.out 2).trans rfl
        have U9 : w3.cell? ⟨cZ, 3, none⟩ = some (.int .i64 bY) := (aG bC.out 3).trans rfl
        have VA : w3.cell? ⟨cZ, 4, none⟩ = some (.int .i64 eX) := (aG bC.out 4).trans rfl
        have VB : w3.cell? ⟨cZ, 5, none⟩ = some (.int .u64 fA) := (aG bC.out 5).trans rfl
        have VD : w3.cell? ⟨cZ, 6, none⟩ = some (.int .u64 eH) := (aG bC.out 6).trans rfl
        have VE : w3.cell? ⟨cZ, 7, none⟩ = some (.bool fK) := (aG bC.out 7).trans rfl
        have qbI : w3.cell? ⟨cZ, 8, none⟩ = some (.slice DW eP.length qI) := (aG bC.out 8).trans rfl
        have qbJ : w3.cell? ⟨cZ, 9, none⟩ = some (.int .i64 iL) := (aG bC.out 9).trans rfl
        have VF := aC bC.out 0
        have VG := aC bC.out 1
        have VH := aC bC.out 2
        have VI := aC bC.out 3
        have VJ := aC bC.out 4
        have VK := aC bC.out 5
        have VL := aC bC.out 6
        have VN := aC bC.out 7
        have qbK := aC bC.out 8
        have qbL := aC bC.out 9
        go_wp2_with (first | ((with_reducible refine jT (f := 33) rfl ?_); refine vX (some 9) rfl rfl Tryz.func33 (by kernel_rfl) rfl #[.agg #[.slice dO aW.length dP, .bool bV, .int .i64 bW, .int .i64 bY, .int .i64 eX, .int .u64 fA, .int .u64 eH, .bool fK]] rfl (by (try simp only [List.map_toArray, List.map_cons, List.map_nil]); first | done | rfl | (simp only [List.length_drop, List.length_take]; rfl)) ?_; (with_reducible refine (fP.calls _ _ aW bV bW bY eX fA eH fK t196 _ ?rD ?rE A4.out).mono ?_); (case rD => repeat (first | exact (Kd.fC zJ.out HB.out) | (with_reducible refine Kd.rY ?_ _) | (with_reducible refine Kd.rZ ?_ _) | (with_reducible refine Kd.vW ?_))); (case rE => exact zK.out); rintro e w9 ⟨rfl, hb⟩; refine ⟨_, rfl, ?_⟩; have n0_ := aA.mk (bD (g := cZ) (o := .cells #[.slice dO aW.length dP, .bool bV, .int .i64 bW, .int .i64 bY, .int .i64 eX, .int .u64 fA, .int .u64 eH, .bool fK, .slice DW eP.length qI, .int .i64 iL] 33 (0, 0)) (by (with_reducible repeat (first | refine bT ?_ _ | refine bI ?_ | refine aY ?_ _)); exact bC.out) hb); have n1_ := aA.mk (aX (by repeat (first | (with_reducible first | exact HB.out | apply aQ | apply aT | apply aV | refine bH ?_ lN.out) | exact HB.out)) hb); clear bC; clear HB; have bC := n0_; have HB := n1_; clear n0_ n1_; (try clear hb); (try clear hb2); (try clear hk); (try clear hi); have XG : w9.cell? ⟨cZ, 0, none⟩ = some (.slice dO aW.length dP) := (aG bC.out 0).trans rfl; have XH : w9.cell? ⟨cZ, 1, none⟩ = some (.bool bV) := (aG bC.out 1).trans rfl; have XI : w9.cell? ⟨cZ, 2, none⟩ = some (.int .i64 bW) := (aG bC.out 2).trans rfl; have XJ : w9.cell? ⟨cZ, 3, none⟩ = some (.int .i64 bY) := (aG bC.out 3).trans rfl; have XK : w9.cell? ⟨cZ, 4, none⟩ = some (.int .i64 eX) := (aG bC.out 4).trans rfl; have XL : w9.cell? ⟨cZ, 5, none⟩ = some (.int .u64 fA) := (aG bC.out 5).trans rfl; have XM : w9.cell? ⟨cZ, 6, none⟩ = some (.int .u64 eH) := (aG bC.out 6).trans rfl; have XO : w9.cell? ⟨cZ, 7, none⟩ = some (.bool fK) := (aG bC.out 7).trans rfl; have XP : w9.cell? ⟨cZ, 8, none⟩ = some (.slice DW eP.length qI) := (aG bC.out 8).trans rfl; have XQ : w9.cell? ⟨cZ, 9, none⟩ = some (.int .i64 iL) := (aG bC.out 9).trans rfl; have XR := aC bC.out 0; have XT := aC bC.out 1; have XU := aC bC.out 2; have XV := aC bC.out 3; have XW := aC bC.out 4; have XY := aC bC.out 5; have XZ := aC bC.out 6; have X0 := aC bC.out 7; have X3 := aC bC.out 8; have X4 := aC bC.out 9))
        go_meet
        case rel => exact ⟨_, (decide ((ji7) ≤ 1024)), (by first | rfl | (simp; done) | (simp only [← qap] <;> (first | rfl | simp)) | (simp [*]; done)), H', ⟨by first | omega | exact Nat.le_refl _⟩, ⟨by (with_reducible repeat (first | refine bT ?_ _ | refine bI ?_ | refine aY ?_ _)); exact bC.out⟩, ⟨by repeat (first | (with_reducible first | exact HB.out | apply aQ | apply aT | apply aV | refine bH ?_ lN.out) | exact HB.out)⟩⟩
      · rw [if_neg c6] at H
        have qdh : decide (1 ≤ iL) = false := decide_eq_false c6
        clear c6
        have H' := aA.mk H
        clear H
        have OX : w3.cell? ⟨cZ, 0, none⟩ = some (.slice dO aW.length dP) := (aG bC.out 0).trans rfl
        have OY : w3.cell? ⟨cZ, 1, none⟩ = some (.bool bV) := (aG bC.out 1).trans rfl
        have OZ : w3.cell? ⟨cZ, 2, none⟩ = some (.int .i64 bW) := (aG bC.out 2).trans rfl
        have O1 : w3.cell? ⟨cZ, 3, none⟩ = some (.int .i64 bY) := (aG bC.out 3).trans rfl
        have O4 : w3.cell? ⟨cZ, 4, none⟩ = some (.int .i64 eX) := (aG bC.out 4).trans rfl
        have O5 : w3.cell? ⟨cZ, 5, none⟩ = some (.int .u64 fA) := (aG bC.out 5).trans rfl
        have O6 : w3.cell? ⟨cZ, 6, none⟩ = some (.int .u64 eH) := (aG bC.out 6).trans rfl
        have O7 : w3.cell? ⟨cZ, 7, none⟩ = some (.bool fK) := (aG bC.out 7).trans rfl
        have X5 : w3.cell? ⟨cZ, 8, none⟩ = some (.slice DW eP.length qI) := (aG bC.out 8).trans rfl
        have X6 : w3.cell? ⟨cZ, 9, none⟩ = some (.int .i64 iL) := (aG bC.out 9).trans rfl
        have O8 := aC bC.out 0
        have O9 := aC bC.out 1
        have PD := aC bC.out 2
        have PE := aC bC.out 3
        have PG := aC bC.out 4
        have PI := aC bC.out 5
        have PK := aC bC.out 6
        have PL := aC bC.out 7
        have X7 := aC bC.out 8
        have X8 := aC bC.out 9
        go_wp2_with (first | ((with_reducible refine jT (f := 33) rfl ?_); refine vX (some 9) rfl rfl Tryz.func33 (by kernel_rfl) rfl #[.agg #[.slice dO aW.length dP, .bool bV, .int .i64 bW, .int .i64 bY, .int .i64 eX, .int .u64 fA, .int .u64 eH, .bool fK]] rfl (by (try simp only [List.map_toArray, List.map_cons, List.map_nil]); first | done | rfl | (simp only [List.length_drop, List.length_take]; rfl)) ?_; (with_reducible refine (fP.calls _ _ aW bV bW bY eX fA eH fK t196 _ ?rD ?rE A4.out).mono ?_); (case rD => repeat (first | exact (Kd.fC zJ.out HB.out) | (with_reducible refine Kd.rY ?_ _) | (with_reducible refine Kd.rZ ?_ _) | (with_reducible refine Kd.vW ?_))); (case rE => exact zK.out); rintro e w12 ⟨rfl, hb⟩; refine ⟨_, rfl, ?_⟩; have n0_ := aA.mk (bD (g := cZ) (o := .cells #[.slice dO aW.length dP, .bool bV, .int .i64 bW, .int .i64 bY, .int .i64 eX, .int .u64 fA, .int .u64 eH, .bool fK, .slice DW eP.length qI, .int .i64 iL] 33 (0, 0)) (by (with_reducible repeat (first | refine bT ?_ _ | refine bI ?_ | refine aY ?_ _)); exact bC.out) hb); have n1_ := aA.mk (aX (by repeat (first | (with_reducible first | exact HB.out | apply aQ | apply aT | apply aV | refine bH ?_ lN.out) | exact HB.out)) hb); clear bC; clear HB; have bC := n0_; have HB := n1_; clear n0_ n1_; (try clear hb); (try clear hb2); (try clear hk); (try clear hi); have PN : w12.cell? ⟨cZ, 0, none⟩ = some (.slice dO aW.length dP) := (aG bC.out 0).trans rfl; have PO : w12.cell? ⟨cZ, 1, none⟩ = some (.bool bV) := (aG bC.out 1).trans rfl; have PS : w12.cell? ⟨cZ, 2, none⟩ = some (.int .i64 bW) := (aG bC.out 2).trans rfl; have PU : w12.cell? ⟨cZ, 3, none⟩ = some (.int .i64 bY) := (aG bC.out 3).trans rfl; have PV : w12.cell? ⟨cZ, 4, none⟩ = some (.int .i64 eX) := (aG bC.out 4).trans rfl; have PW : w12.cell? ⟨cZ, 5, none⟩ = some (.int .u64 fA) := (aG bC.out 5).trans rfl; have PX : w12.cell? ⟨cZ, 6, none⟩ = some (.int .u64 eH) := (aG bC.out 6).trans rfl; have PY : w12.cell? ⟨cZ, 7, none⟩ = some (.bool fK) := (aG bC.out 7).trans rfl; have X9 : w12.cell? ⟨cZ, 8, none⟩ = some (.slice DW eP.length qI) := (aG bC.out 8).trans rfl; have YA : w12.cell? ⟨cZ, 9, none⟩ = some (.int .i64 iL) := (aG bC.out 9).trans rfl; have PZ := aC bC.out 0; have P5 := aC bC.out 1; have P6 := aC bC.out 2; have P7 := aC bC.out 3; have P8 := aC bC.out 4; have P9 := aC bC.out 5; have QA := aC bC.out 6; have QC := aC bC.out 7; have YB := aC bC.out 8; have YC := aC bC.out 9))
        go_meet
        case rel => exact ⟨_, (false), (by first | rfl | (simp; done) | (simp [*]; done)), H', ⟨by first | omega | exact Nat.le_refl _⟩, ⟨by (with_reducible repeat (first | refine bT ?_ _ | refine bI ?_ | refine aY ?_ _)); exact bC.out⟩, ⟨by repeat (first | (with_reducible first | exact HB.out | apply aQ | apply aT | apply aV | refine bH ?_ lN.out) | exact HB.out)⟩⟩
    · rw [if_neg c5] at H
      have TG : (t196 == 0) = false := beq_eq_false_iff_ne.mpr c5
      have qeu : (t196 != 0) = true := bne_iff_ne.mpr c5
      (first | rw [TG] | (simp only [aH, aI]; rw [TG]) | skip)
      have H' := aA.mk H
      clear H
      have YD : w3.cell? ⟨cZ, 0, none⟩ = some (.slice dO aW.length dP) := (aG bC.out 0).trans rfl
      have YE : w3.cell? ⟨cZ, 1, none⟩ = some (.bool bV) := (aG bC.out 1).trans rfl
      have YF : w3.cell? ⟨cZ, 2, none⟩ = some (.int .i64 bW) := (aG bC.out 2).trans rfl
      have YG : w3.cell? ⟨cZ, 3, none⟩ = some (.int .i64 bY) := (aG bC.out 3).trans rfl
      have YH : w3.cell? ⟨cZ, 4, none⟩ = some (.int .i64 eX) := (aG bC.out 4).trans rfl
      have YI : w3.cell? ⟨cZ, 5, none⟩ = some (.int .u64 fA) := (aG bC.out 5).trans rfl
      have YJ : w3.cell? ⟨cZ, 6, none⟩ = some (.int .u64 eH) := (aG bC.out 6).trans rfl
      have YK : w3.cell? ⟨cZ, 7, none⟩ = some (.bool fK) := (aG bC.out 7).trans rfl
      have YL : w3.cell? ⟨cZ, 8, none⟩ = some (.slice DW eP.length qI) := (aG bC.out 8).trans rfl
      have YM : w3.cell? ⟨cZ, 9, none⟩ = some (.int .i64 iL) := (aG bC.out 9).trans rfl
      have YN := aC bC.out 0
      have YO := aC bC.out 1
      have YP := aC bC.out 2
      have YQ := aC bC.out 3
      have YR := aC bC.out 4
      have YS := aC bC.out 5
      have YT := aC bC.out 6
      have YU := aC bC.out 7
      have YV := aC bC.out 8
      have YW := aC bC.out 9
      go_wp2_with (first | ((with_reducible refine jT (f := 33) rfl ?_); refine vX (some 9) rfl rfl Tryz.func33 (by kernel_rfl) rfl #[.agg #[.slice dO aW.length dP, .bool bV, .int .i64 bW, .int .i64 bY, .int .i64 eX, .int .u64 fA, .int .u64 eH, .bool fK]] rfl (by (try simp only [List.map_toArray, List.map_cons, List.map_nil]); first | done | rfl | (simp only [List.length_drop, List.length_take]; rfl)) ?_; (with_reducible refine (fP.calls _ _ aW bV bW bY eX fA eH fK t196 _ ?rD ?rE A4.out).mono ?_); (case rD => repeat (first | exact (Kd.fC zJ.out HB.out) | (with_reducible refine Kd.rY ?_ _) | (with_reducible refine Kd.rZ ?_ _) | (with_reducible refine Kd.vW ?_))); (case rE => exact zK.out); rintro e w15 ⟨rfl, hb⟩; refine ⟨_, rfl, ?_⟩; have n0_ := aA.mk (bD (g := cZ) (o := .cells #[.slice dO aW.length dP, .bool bV, .int .i64 bW, .int .i64 bY, .int .i64 eX, .int .u64 fA, .int .u64 eH, .bool fK, .slice DW eP.length qI, .int .i64 iL] 33 (0, 0)) (by (with_reducible repeat (first | refine bT ?_ _ | refine bI ?_ | refine aY ?_ _)); exact bC.out) hb); have n1_ := aA.mk (aX (by repeat (first | (with_reducible first | exact HB.out | apply aQ | apply aT | apply aV | refine bH ?_ lN.out) | exact HB.out)) hb); clear bC; clear HB; have bC := n0_; have HB := n1_; clear n0_ n1_; (try clear hb); (try clear hb2); (try clear hk); (try clear hi)))
      go_meet
      case rel => exact ⟨_, (false), (by first | rfl | (simp; done) | (simp [*]; done)), H', ⟨by first | omega | exact Nat.le_refl _⟩, ⟨by (with_reducible repeat (first | refine bT ?_ _ | refine bI ?_ | refine aY ?_ _)); exact bC.out⟩, ⟨by repeat (first | (with_reducible first | exact HB.out | apply aQ | apply aT | apply aV | refine bH ?_ lN.out) | exact HB.out)⟩⟩
  case rest =>
    clear HC2
    try clear p2
    try clear c3
    try clear c5
    try clear TG
    try clear qeu
    try clear c6
    try clear qdh
    try clear XG
    try clear XH
    try clear XI
    try clear XJ
    try clear XK
    try clear XL
    try clear XM
    try clear XO
    try clear XP
    try clear XQ
    try clear OX
    try clear OY
    try clear OZ
    try clear O1
    try clear O4
    try clear O5
    try clear O6
    try clear O7
    try clear X5
    try clear X6
    try clear PN
    try clear PO
    try clear PS
    try clear PU
    try clear PV
    try clear PW
    try clear PX
    try clear PY
    try clear X9
    try clear YA
    try clear YD
    try clear YE
    try clear YF
    try clear YG
    try clear YH
    try clear YI
    try clear YJ
    try clear YK
    try clear YL
    try clear YM
    try clear U6
    try clear U7
    try clear U8
    try clear U9
    try clear VA
    try clear VB
    try clear VD
    try clear VE
    try clear qbI
    try clear qbJ
    try clear XR
    try clear XT
    try clear XU
    try clear XV
    try clear XW
    try clear XY
    try clear XZ
    try clear X0
    try clear X3
    try clear X4
    try clear O8
    try clear O9
    try clear PD
    try clear PE
    try clear PG
    try clear PI
    try clear PK
    try clear PL
    try clear X7
    try clear X8
    try clear PZ
    try clear P5
    try clear P6
    try clear P7
    try clear P8
    try clear P9
    try clear QA
    try clear QC
    try clear YB
    try clear YC
    try clear YN
    try clear YO
    try clear YP
    try clear YQ
    try clear YR
    try clear YS
    try clear YT
    try clear YU
    try clear YV
    try clear YW
    try clear VF
    try clear VG
    try clear VH
    try clear VI
    try clear VJ
    try clear VK
    try clear VL
    try clear VN
    try clear qbK
    try clear qbL
    obtain ⟨kq, qdg, rfl, HA, HJ1, bC, HB⟩ := hcut
    cases kq with
    | zero => exact absurd HA.out (by simp [bJ.j0])
    | succ kj1 =>
      have H := HA.out
      clear HA
      simp only [bJ.j0] at H
      have H' := aA.mk H
      clear H
      have WQ : wc.cell? ⟨cZ, 0, none⟩ = some (.slice dO aW.length dP) := (aG bC.out 0).trans rfl
      have WR : wc.cell? ⟨cZ, 1, none⟩ = some (.bool bV) := (aG bC.out 1).trans rfl
      have WS : wc.cell? ⟨cZ, 2, none⟩ = some (.int .i64 bW) := (aG bC.out 2).trans rfl
      have WT : wc.cell? ⟨cZ, 3, none⟩ = some (.int .i64 bY) := (aG bC.out 3).trans rfl
      have WU : wc.cell? ⟨cZ, 4, none⟩ = some (.int .i64 eX) := (aG bC.out 4).trans rfl
      have WV : wc.cell? ⟨cZ, 5, none⟩ = some (.int .u64 fA) := (aG bC.out 5).trans rfl
      have WW : wc.cell? ⟨cZ, 6, none⟩ = some (.int .u64 eH) := (aG bC.out 6).trans rfl
      have WX : wc.cell? ⟨cZ, 7, none⟩ = some (.bool fK) := (aG bC.out 7).trans rfl
      have qdi : wc.cell? ⟨cZ, 8, none⟩ = some (.slice DW eP.length qI) := (aG bC.out 8).trans rfl
      have qdj : wc.cell? ⟨cZ, 9, none⟩ = some (.int .i64 iL) := (aG bC.out 9).trans rfl
      have WY := aC bC.out 0
      have WZ := aC bC.out 1
      have W9 := aC bC.out 2
      have XA := aC bC.out 3
      have XB := aC bC.out 4
      have XC := aC bC.out 5
      have XD := aC bC.out 6
      have XE := aC bC.out 7
      have qdk := aC bC.out 8
      have qdl := aC bC.out 9
      go_wp2
      go_loopg [3, 4, 31] kj1 (fun kq v3 v4 v31 w' => ∃ (qbM : Bool) (IW : Int) (fQ : Int), v3 = .bool qbM ∧ v4 = .int .u64 IW ∧ v31 = .int .i64 fQ ∧ aA (bJ.l0 kq qbM IW eP (eP.length : Int) fQ aW bV bW bY eX fA eH fK eP iL = some r) ∧ aA (kq ≤ kj1) ∧ aA (w'.heap[cZ]? = some (.cells #[(.slice dO aW.length dP), .bool bV, .int .i64 bW, .int .i64 bY, .int .i64 eX, .int .u64 fA, .int .u64 eH, .bool fK, (.slice DW eP.length qI), .int .i64 iL] 33 (0, 0))) ∧ aA (Below w.heap.size w w'))
      case atStart => exact ⟨(qdg), (fA), (0), (by first | rfl | (simp; done) | (simp [*]; done)), (by first | rfl | (simp; done) | (simp [*]; done)), (by first | rfl | (simp; done) | (simp [*]; done)), H', ⟨Nat.le_refl _⟩, ⟨by (with_reducible repeat (first | refine bT ?_ _ | refine bI ?_ | refine aY ?_ _)); exact bC.out⟩, ⟨by repeat (first | (with_reducible first | exact HB.out | apply aQ | apply aT | apply aV | refine bH ?_ lN.out) | exact HB.out)⟩⟩
      case round =>
        clear H'
        try clear p2
        try clear c3
        try clear c5
        try clear TG
        try clear qeu
        try clear c6
        try clear qdh
        try clear XG
        try clear XH
        try clear XI
        try clear XJ
        try clear XK
        try clear XL
        try clear XM
        try clear XO
        try clear XP
        try clear XQ
        try clear OX
        try clear OY
        try clear OZ
        try clear O1
        try clear O4
        try clear O5
        try clear O6
        try clear O7
        try clear X5
        try clear X6
        try clear PN
        try clear PO
        try clear PS
        try clear PU
        try clear PV
        try clear PW
        try clear PX
        try clear PY
        try clear X9
        try clear YA
        try clear YD
        try clear YE
        try clear YF
        try clear YG
        try clear YH
        try clear YI
        try clear YJ
        try clear YK
        try clear YL
        try clear YM
        try clear WQ
        try clear WR
        try clear WS
        try clear WT
        try clear WU
        try clear WV
        try clear WW
        try clear WX
        try clear qdi
        try clear qdj
        try clear U6
        try clear U7
        try clear U8
        try clear U9
        try clear VA
        try clear VB
        try clear VD
        try clear VE
        try clear qbI
        try clear qbJ
        try clear XR
        try clear XT
        try clear XU
        try clear XV
        try clear XW
        try clear XY
        try clear XZ
        try clear X0
        try clear X3
        try clear X4
        try clear O8
        try clear O9
        try clear PD
        try clear PE
        try clear PG
        try clear PI
        try clear PK
        try clear PL
        try clear X7
        try clear X8
        try clear PZ
        try clear P5
        try clear P6
        try clear P7
        try clear P8
        try clear P9
        try clear QA
        try clear QC
        try clear YB
        try clear YC
        try clear YN
        try clear YO
        try clear YP
        try clear YQ
        try clear YR
        try clear YS
        try clear YT
        try clear YU
        try clear YV
        try clear YW
        try clear WY
        try clear WZ
        try clear W9
        try clear XA
        try clear XB
        try clear XC
        try clear XD
        try clear XE
        try clear qdk
        try clear qdl
        try clear VF
        try clear VG
        try clear VH
        try clear VI
        try clear VJ
        try clear VK
        try clear VL
        try clear VN
        try clear qbK
        try clear qbL
        try clear p2
        obtain ⟨qbM, IW, fQ, rfl, rfl, rfl, HA, HK2, bC, HB⟩ := hrel
        cases gk with
        | zero => exact absurd HA.out (by simp [bJ.l0])
        | succ k2 =>
          have H := HA.out
          clear HA
          simp only [bJ.l0] at H
          by_cases c17 : fQ < (eP.length : Int)
          · rw [if_pos c17] at H
            have qfj : decide (fQ < (eP.length : Int)) = true := decide_eq_true c17
            clear c17
            by_cases c18 : 0 ≤ fQ
            · rw [if_pos c18] at H
              have qiQ : decide (0 ≤ fQ) = true := decide_eq_true c18
              clear c18
              by_cases c19 : fQ < (eP.length : Int)
              · rw [if_pos c19] at H
                have qdG : decide (fQ < (eP.length : Int)) = true := decide_eq_true c19
                clear c19
                by_cases c20 : qbM = true
                · subst c20
                  have H1 : (if (((dN eP fQ).f1).size : Int) < 65536 then (if ((dN eP fQ).f0) ≥ IW then (bJ.l0 k2 (decide (((dN eP fQ).f0) < eH)) (IntKind.u64.wrap (((dN eP fQ).f0) + 1)) eP (eP.length : Int) (wrap64 (fQ + 1)) aW bV bW bY eX fA eH fK eP iL) else (bJ.l0 k2 false (IntKind.u64.wrap (((dN eP fQ).f0) + 1)) eP (eP.length : Int) (wrap64 (fQ + 1)) aW bV bW bY eX fA eH fK eP iL)) else (bJ.l0 k2 false (IntKind.u64.wrap (((dN eP fQ).f0) + 1)) eP (eP.length : Int) (wrap64 (fQ + 1)) aW bV bW bY eX fA eH fK eP iL)) = some r := by rw [if_pos rfl] at H; exact H
                  clear H
                  have H := H1
                  clear H1
                  by_cases c21 : (((dN eP fQ).f1).size : Int) < 65536
                  · rw [if_pos c21] at H
                    have qfk : decide ((((dN eP fQ).f1).size : Int) < 65536) = true := decide_eq_true c21
                    have qfl : decide (((dN eP fQ).f1).size < 65536) = true := decide_eq_true (by omega)
                    clear c21
                    by_cases c22 : ((dN eP fQ).f0) ≥ IW
                    · rw [if_pos c22] at H
                      have qfm : decide (IW ≤ ((dN eP fQ).f0)) = true := decide_eq_true c22
                      clear c22
                      have H' := aA.mk H
                      clear H
                      have AY : 0 ≤ (fQ : Int) := of_decide_eq_true (by first | (with_reducible assumption) | assumption)
                      have AZ : fQ < (eP.length : Int) := of_decide_eq_true (by first | (with_reducible assumption) | assumption)
                      obtain ⟨rW, e197, lD, lF, lG⟩ := pR XF.out fQ AY AZ
                      cases e197
                      replace lD := (HB.out.cell (World.block_lt_of_cell? w _ lD)).trans lD
                      replace lF := (HB.out.cell (World.block_lt_of_cell? w _ lF)).trans lF
                      replace lG := (HB.out.cell (World.block_lt_of_cell? w _ lG)).trans lG
                      replace AY := eq_true AY
                      replace AZ := eq_true AZ
                      go_wp2_with (first | ((with_reducible refine aP (N := 6) rfl ?_); (try (refine sV (by rfl) ?_; dsimp only)); refine dI ?hg (N := 6) ?hd (cs := #[.int .u64 0, .string (⟨#[]⟩ : ByteArray), .bool false]) (t := 41) ?hr ?_; (case hd => rfl); (case hg => rfl); (case hr => first | (go_simp; done) | (go_simp; rfl)); intro jL hg w23 hbox hb; have n0_ := aA.mk (bD (g := cZ) (o := .cells #[.slice dO aW.length dP, .bool bV, .int .i64 bW, .int .i64 bY, .int .i64 eX, .int .u64 fA, .int .u64 eH, .bool fK, .slice (some rW) eP.length qI, .int .i64 iL] 33 (0, 0)) (by (with_reducible repeat (first | refine bT ?_ _ | refine bI ?_ | refine aY ?_ _)); exact bC.out) hb); have n1_ := aA.mk (aX (by repeat (first | (with_reducible first | exact HB.out | apply aQ | apply aT | apply aV | refine bH ?_ lN.out) | exact HB.out)) hb); have n2_ := aA.mk (hbox); have n3_ := aA.mk ((by rw [hg]; exact (dW (by repeat (first | (with_reducible first | exact HB.out | apply aQ | apply aT | apply aV | refine bH ?_ lN.out) | exact HB.out))) : w.heap.size ≤ jL)); have n4_ := aA.mk ((by rw [hg]; exact (dW (by repeat (first | (with_reducible first | exact HB.out | apply aQ | apply aT | apply aV | refine bH ?_ lN.out) | exact HB.out))) : w.heap.size ≤ jL)); have n5_ := aA.mk ((by rw [hg]; exact Nat.ne_of_lt (gG (g := cZ) (o := .cells #[.slice dO aW.length dP, .bool bV, .int .i64 bW, .int .i64 bY, .int .i64 eX, .int .u64 fA, .int .u64 eH, .bool fK, .slice (some rW) eP.length qI, .int .i64 iL] 33 (0, 0)) (by (with_reducible repeat (first | refine bT ?_ _ | refine bI ?_ | refine aY ?_ _)); exact bC.out)) : cZ ≠ jL)); have n6_ := aA.mk ((by rw [hg]; exact Nat.ne_of_gt (gG (g := cZ) (o := .cells #[.slice dO aW.length dP, .bool bV, .int .i64 bW, .int .i64 bY, .int .i64 eX, .int .u64 fA, .int .u64 eH, .bool fK, .slice (some rW) eP.length qI, .int .i64 iL] 33 (0, 0)) (by (with_reducible repeat (first | refine bT ?_ _ | refine bI ?_ | refine aY ?_ _)); exact bC.out)) : jL ≠ cZ)); clear bC; clear HB; have bC := n0_; have HB := n1_; have kL := n2_; have qbN := n3_; have KN := n4_; have gJ := n5_; have qJ := n6_; clear n0_ n1_ n2_ n3_ n4_ n5_ n6_; clear hb hbox hg; have qiR := qJ.out; have qiS := gJ.out; have qcT : w23.cell? ⟨jL, 0, none⟩ = some (.int .u64 0) := (aG kL.out 0).trans rfl; have qcU : w23.cell? ⟨jL, 1, none⟩ = some (.string (⟨#[]⟩ : ByteArray)) := (aG kL.out 1).trans rfl; have qcV : w23.cell? ⟨jL, 2, none⟩ = some (.bool false) := (aG kL.out 2).trans rfl; have qcW := aC kL.out 0; have qcX := aC kL.out 1; have qcY := aC kL.out 2; have qhb : w23.cell? ⟨cZ, 0, none⟩ = some (.slice dO aW.length dP) := (aG bC.out 0).trans rfl; have qhc : w23.cell? ⟨cZ, 1, none⟩ = some (.bool bV) := (aG bC.out 1).trans rfl; have qhd : w23.cell? ⟨cZ, 2, none⟩ = some (.int .i64 bW) := (aG bC.out 2).trans rfl; have qhe : w23.cell? ⟨cZ, 3, none⟩ = some (.int .i64 bY) := (aG bC.out 3).trans rfl; have qhf : w23.cell? ⟨cZ, 4, none⟩ = some (.int .i64 eX) := (aG bC.out 4).trans rfl; have qhg : w23.cell? ⟨cZ, 5, none⟩ = some (.int .u64 fA) := (aG bC.out 5).trans rfl; have qhh : w23.cell? ⟨cZ, 6, none⟩ = some (.int .u64 eH) := (aG bC.out 6).trans rfl; have qhi : w23.cell? ⟨cZ, 7, none⟩ = some (.bool fK) := (aG bC.out 7).trans rfl; have qhj : w23.cell? ⟨cZ, 8, none⟩ = some (.slice (some rW) eP.length qI) := (aG bC.out 8).trans rfl; have qhk : w23.cell? ⟨cZ, 9, none⟩ = some (.int .i64 iL) := (aG bC.out 9).trans rfl; have qhl := aC bC.out 0; have qhm := aC bC.out 1; have qhn := aC bC.out 2; have qho := aC bC.out 3; have qhp := aC bC.out 4; have qhq := aC bC.out 5; have qhr := aC bC.out 6; have qhs := aC bC.out 7; have qht := aC bC.out 8; have qhu := aC bC.out 9))
                      go_roundg k2
                      case measure => have := HJ1.out; have := HK2.out; omega
                      case rel => exact ⟨(decide (((dN eP fQ).f0) < eH)), (IntKind.u64.wrap (((dN eP fQ).f0) + 1)), (wrap64 (fQ + 1)), (by first | rfl | (simp; done) | (simp [*]; done)), (by first | rfl | (simp; done) | (simp [*]; done)), (by first | rfl | (simp; done) | (simp [*]; done)), H', ⟨by have := HJ1.out; have := HK2.out; omega⟩, ⟨by (with_reducible repeat (first | refine bT ?_ _ | refine bI ?_ | refine aY ?_ _)); refine dF ?_ gJ.out _; (with_reducible repeat (first | refine bT ?_ _ | refine bI ?_ | refine aY ?_ _)); refine dF ?_ gJ.out _; (with_reducible repeat (first | refine bT ?_ _ | refine bI ?_ | refine aY ?_ _)); refine dF ?_ gJ.out _; (with_reducible repeat (first | refine bT ?_ _ | refine bI ?_ | refine aY ?_ _)); exact bC.out⟩, ⟨by repeat (first | (with_reducible first | exact HB.out | apply aQ | apply aT | apply aV | refine bH ?_ lN.out | refine bH ?_ KN.out) | exact HB.out)⟩⟩
                    · rw [if_neg c22] at H
                      have qfm : decide (IW ≤ ((dN eP fQ).f0)) = false := decide_eq_false c22
                      clear c22
                      have H' := aA.mk H
                      clear H
                      have AY : 0 ≤ (fQ : Int) := of_decide_eq_true (by first | (with_reducible assumption) | assumption)
                      have AZ : fQ < (eP.length : Int) := of_decide_eq_true (by first | (with_reducible assumption) | assumption)
                      obtain ⟨rW, e197, lD, lF, lG⟩ := pR XF.out fQ AY AZ
                      cases e197
                      replace lD := (HB.out.cell (World.block_lt_of_cell? w _ lD)).trans lD
                      replace lF := (HB.out.cell (World.block_lt_of_cell? w _ lF)).trans lF
                      replace lG := (HB.out.cell (World.block_lt_of_cell? w _ lG)).trans lG
                      replace AY := eq_true AY
                      replace AZ := eq_true AZ
                      go_wp2_with (first | ((with_reducible refine aP (N := 6) rfl ?_); (try (refine sV (by rfl) ?_; dsimp only)); refine dI ?hg (N := 6) ?hd (cs := #[.int .u64 0, .string (⟨#[]⟩ : ByteArray), .bool false]) (t := 41) ?hr ?_; (case hd => rfl); (case hg => rfl); (case hr => first | (go_simp; done) | (go_simp; rfl)); intro jL hg w27 hbox hb; have n0_ := aA.mk (bD (g := cZ) (o := .cells #[.slice dO aW.length dP, .bool bV, .int .i64 bW, .int .i64 bY, .int .i64 eX, .int .u64 fA, .int .u64 eH, .bool fK, .slice (some rW) eP.length qI, .int .i64 iL] 33 (0, 0)) (by (with_reducible repeat (first | refine bT ?_ _ | refine bI ?_ | refine aY ?_ _)); exact bC.out) hb); have n1_ := aA.mk (aX (by repeat (first | (with_reducible first | exact HB.out | apply aQ | apply aT | apply aV | refine bH ?_ lN.out) | exact HB.out)) hb); have n2_ := aA.mk (hbox); have n3_ := aA.mk ((by rw [hg]; exact (dW (by repeat (first | (with_reducible first | exact HB.out | apply aQ | apply aT | apply aV | refine bH ?_ lN.out) | exact HB.out))) : w.heap.size ≤ jL)); have n4_ := aA.mk ((by rw [hg]; exact (dW (by repeat (first | (with_reducible first | exact HB.out | apply aQ | apply aT | apply aV | refine bH ?_ lN.out) | exact HB.out))) : w.heap.size ≤ jL)); have n5_ := aA.mk ((by rw [hg]; exact Nat.ne_of_lt (gG (g := cZ) (o := .cells #[.slice dO aW.length dP, .bool bV, .int .i64 bW, .int .i64 bY, .int .i64 eX, .int .u64 fA, .int .u64 eH, .bool fK, .slice (some rW) eP.length qI, .int .i64 iL] 33 (0, 0)) (by (with_reducible repeat (first | refine bT ?_ _ | refine bI ?_ | refine aY ?_ _)); exact bC.out)) : cZ ≠ jL)); have n6_ := aA.mk ((by rw [hg]; exact Nat.ne_of_gt (gG (g := cZ) (o := .cells #[.slice dO aW.length dP, .bool bV, .int .i64 bW, .int .i64 bY, .int .i64 eX, .int .u64 fA, .int .u64 eH, .bool fK, .slice (some rW) eP.length qI, .int .i64 iL] 33 (0, 0)) (by (with_reducible repeat (first | refine bT ?_ _ | refine bI ?_ | refine aY ?_ _)); exact bC.out)) : jL ≠ cZ)); clear bC; clear HB; have bC := n0_; have HB := n1_; have kL := n2_; have qbN := n3_; have KN := n4_; have gJ := n5_; have qJ := n6_; clear n0_ n1_ n2_ n3_ n4_ n5_ n6_; clear hb hbox hg; have qiT := qJ.out; have qiU := gJ.out; have qcZ : w27.cell? ⟨jL, 0, none⟩ = some (.int .u64 0) := (aG kL.out 0).trans rfl; have qc0 : w27.cell? ⟨jL, 1, none⟩ = some (.string (⟨#[]⟩ : ByteArray)) := (aG kL.out 1).trans rfl; have qc7 : w27.cell? ⟨jL, 2, none⟩ = some (.bool false) := (aG kL.out 2).trans rfl; have qc8 := aC kL.out 0; have qc9 := aC kL.out 1; have qda := aC kL.out 2))
                      go_roundg k2
                      case measure => have := HJ1.out; have := HK2.out; omega
                      case rel => exact ⟨(false), (IntKind.u64.wrap (((dN eP fQ).f0) + 1)), (wrap64 (fQ + 1)), (by first | rfl | (simp; done) | (simp [*]; done)), (by first | rfl | (simp; done) | (simp [*]; done)), (by first | rfl | (simp; done) | (simp [*]; done)), H', ⟨by have := HJ1.out; have := HK2.out; omega⟩, ⟨by (with_reducible repeat (first | refine bT ?_ _ | refine bI ?_ | refine aY ?_ _)); refine dF ?_ gJ.out _; (with_reducible repeat (first | refine bT ?_ _ | refine bI ?_ | refine aY ?_ _)); refine dF ?_ gJ.out _; (with_reducible repeat (first | refine bT ?_ _ | refine bI ?_ | refine aY ?_ _)); refine dF ?_ gJ.out _; (with_reducible repeat (first | refine bT ?_ _ | refine bI ?_ | refine aY ?_ _)); exact bC.out⟩, ⟨by repeat (first | (with_reducible first | exact HB.out | apply aQ | apply aT | apply aV | refine bH ?_ lN.out | refine bH ?_ KN.out) | exact HB.out)⟩⟩
                  · rw [if_neg c21] at H
                    have qfk : decide ((((dN eP fQ).f1).size : Int) < 65536) = false := decide_eq_false c21
                    have qfl : decide (((dN eP fQ).f1).size < 65536) = false := decide_eq_false (by omega)
                    clear c21
                    have H' := aA.mk H
                    clear H
                    have AY : 0 ≤ (fQ : Int) := of_decide_eq_true (by first | (with_reducible assumption) | assumption)
                    have AZ : fQ < (eP.length : Int) := of_decide_eq_true (by first | (with_reducible assumption) | assumption)
                    obtain ⟨rW, e197, lD, lF, lG⟩ := pR XF.out fQ AY AZ
                    cases e197
                    replace lD := (HB.out.cell (World.block_lt_of_cell? w _ lD)).trans lD
                    replace lF := (HB.out.cell (World.block_lt_of_cell? w _ lF)).trans lF
                    replace lG := (HB.out.cell (World.block_lt_of_cell? w _ lG)).trans lG
                    replace AY := eq_true AY
                    replace AZ := eq_true AZ
                    go_wp2_with (first | ((with_reducible refine aP (N := 6) rfl ?_); (try (refine sV (by rfl) ?_; dsimp only)); refine dI ?hg (N := 6) ?hd (cs := #[.int .u64 0, .string (⟨#[]⟩ : ByteArray), .bool false]) (t := 41) ?hr ?_; (case hd => rfl); (case hg => rfl); (case hr => first | (go_simp; done) | (go_simp; rfl)); intro jL hg w30 hbox hb; have n0_ := aA.mk (bD (g := cZ) (o := .cells #[.slice dO aW.length dP, .bool bV, .int .i64 bW, .int .i64 bY, .int .i64 eX, .int .u64 fA, .int .u64 eH, .bool fK, .slice (some rW) eP.length qI, .int .i64 iL] 33 (0, 0)) (by (with_reducible repeat (first | refine bT ?_ _ | refine bI ?_ | refine aY ?_ _)); exact bC.out) hb); have n1_ := aA.mk (aX (by repeat (first | (with_reducible first | exact HB.out | apply aQ | apply aT | apply aV | refine bH ?_ lN.out) | exact HB.out)) hb); have n2_ := aA.mk (hbox); have n3_ := aA.mk ((by rw [hg]; exact (dW (by repeat (first | (with_reducible first | exact HB.out | apply aQ | apply aT | apply aV | refine bH ?_ lN.out) | exact HB.out))) : w.heap.size ≤ jL)); have n4_ := aA.mk ((by rw [hg]; exact (dW (by repeat (first | (with_reducible first | exact HB.out | apply aQ | apply aT | apply aV | refine bH ?_ lN.out) | exact HB.out))) : w.heap.size ≤ jL)); have n5_ := aA.mk ((by rw [hg]; exact Nat.ne_of_lt (gG (g := cZ) (o := .cells #[.slice dO aW.length dP, .bool bV, .int .i64 bW, .int .i64 bY, .int .i64 eX, .int .u64 fA, .int .u64 eH, .bool fK, .slice (some rW) eP.length qI, .int .i64 iL] 33 (0, 0)) (by (with_reducible repeat (first | refine bT ?_ _ | refine bI ?_ | refine aY ?_ _)); exact bC.out)) : cZ ≠ jL)); have n6_ := aA.mk ((by rw [hg]; exact Nat.ne_of_gt (gG (g := cZ) (o := .cells #[.slice dO aW.length dP, .bool bV, .int .i64 bW, .int .i64 bY, .int .i64 eX, .int .u64 fA, .int .u64 eH, .bool fK, .slice (some rW) eP.length qI, .int .i64 iL] 33 (0, 0)) (by (with_reducible repeat (first | refine bT ?_ _ | refine bI ?_ | refine aY ?_ _)); exact bC.out)) : jL ≠ cZ)); clear bC; clear HB; have bC := n0_; have HB := n1_; have kL := n2_; have qbN := n3_; have KN := n4_; have gJ := n5_; have qJ := n6_; clear n0_ n1_ n2_ n3_ n4_ n5_ n6_; clear hb hbox hg; have qiV := qJ.out; have qiW := gJ.out; have qhv : w30.cell? ⟨jL, 0, none⟩ = some (.int .u64 0) := (aG kL.out 0).trans rfl; have qhw : w30.cell? ⟨jL, 1, none⟩ = some (.string (⟨#[]⟩ : ByteArray)) := (aG kL.out 1).trans rfl; have qhx : w30.cell? ⟨jL, 2, none⟩ = some (.bool false) := (aG kL.out 2).trans rfl; have qhy := aC kL.out 0; have qhz := aC kL.out 1; have qhA := aC kL.out 2))
                    go_roundg k2
                    case measure => have := HJ1.out; have := HK2.out; omega
                    case rel => exact ⟨(false), (IntKind.u64.wrap (((dN eP fQ).f0) + 1)), (wrap64 (fQ + 1)), (by first | rfl | (simp; done) | (simp [*]; done)), (by first | rfl | (simp; done) | (simp [*]; done)), (by first | rfl | (simp; done) | (simp [*]; done)), H', ⟨by have := HJ1.out; have := HK2.out; omega⟩, ⟨by (with_reducible repeat (first | refine bT ?_ _ | refine bI ?_ | refine aY ?_ _)); refine dF ?_ gJ.out _; (with_reducible repeat (first | refine bT ?_ _ | refine bI ?_ | refine aY ?_ _)); refine dF ?_ gJ.out _; (with_reducible repeat (first | refine bT ?_ _ | refine bI ?_ | refine aY ?_ _)); refine dF ?_ gJ.out _; (with_reducible repeat (first | refine bT ?_ _ | refine bI ?_ | refine aY ?_ _)); exact bC.out⟩, ⟨by repeat (first | (with_reducible first | exact HB.out | apply aQ | apply aT | apply aV | refine bH ?_ lN.out | refine bH ?_ KN.out) | exact HB.out)⟩⟩
                · replace c20 := Bool.eq_false_iff.mpr c20
                  subst c20
                  have H1 : (bJ.l0 k2 false (IntKind.u64.wrap (((dN eP fQ).f0) + 1)) eP (eP.length : Int) (wrap64 (fQ + 1)) aW bV bW bY eX fA eH fK eP iL) = some r := by rw [if_neg (show ¬ (false = true) by decide)] at H; exact H
                  clear H
                  have H := H1
                  clear H1
                  have H' := aA.mk H
                  clear H
                  have AY : 0 ≤ (fQ : Int) := of_decide_eq_true (by first | (with_reducible assumption) | assumption)
                  have AZ : fQ < (eP.length : Int) := of_decide_eq_true (by first | (with_reducible assumption) | assumption)
                  obtain ⟨rW, e197, lD, lF, lG⟩ := pR XF.out fQ AY AZ
                  cases e197
                  replace lD := (HB.out.cell (World.block_lt_of_cell? w _ lD)).trans lD
                  replace lF := (HB.out.cell (World.block_lt_of_cell? w _ lF)).trans lF
                  replace lG := (HB.out.cell (World.block_lt_of_cell? w _ lG)).trans lG
                  replace AY := eq_true AY
                  replace AZ := eq_true AZ
                  go_wp2_with (first | ((with_reducible refine aP (N := 6) rfl ?_); (try (refine sV (by rfl) ?_; dsimp only)); refine dI ?hg (N := 6) ?hd (cs := #[.int .u64 0, .string (⟨#[]⟩ : ByteArray), .bool false]) (t := 41) ?hr ?_; (case hd => rfl); (case hg => rfl); (case hr => first | (go_simp; done) | (go_simp; rfl)); intro jL hg w33 hbox hb; have n0_ := aA.mk (bD (g := cZ) (o := .cells #[.slice dO aW.length dP, .bool bV, .int .i64 bW, .int .i64 bY, .int .i64 eX, .int .u64 fA, .int .u64 eH, .bool fK, .slice (some rW) eP.length qI, .int .i64 iL] 33 (0, 0)) (by (with_reducible repeat (first | refine bT ?_ _ | refine bI ?_ | refine aY ?_ _)); exact bC.out) hb); have n1_ := aA.mk (aX (by repeat (first | (with_reducible first | exact HB.out | apply aQ | apply aT | apply aV | refine bH ?_ lN.out) | exact HB.out)) hb); have n2_ := aA.mk (hbox); have n3_ := aA.mk ((by rw [hg]; exact (dW (by repeat (first | (with_reducible first | exact HB.out | apply aQ | apply aT | apply aV | refine bH ?_ lN.out) | exact HB.out))) : w.heap.size ≤ jL)); have n4_ := aA.mk ((by rw [hg]; exact (dW (by repeat (first | (with_reducible first | exact HB.out | apply aQ | apply aT | apply aV | refine bH ?_ lN.out) | exact HB.out))) : w.heap.size ≤ jL)); have n5_ := aA.mk ((by rw [hg]; exact Nat.ne_of_lt (gG (g := cZ) (o := .cells #[.slice dO aW.length dP, .bool bV, .int .i64 bW, .int .i64 bY, .int .i64 eX, .int .u64 fA, .int .u64 eH, .bool fK, .slice (some rW) eP.length qI, .int .i64 iL] 33 (0, 0)) (by (with_reducible repeat (first | refine bT ?_ _ | refine bI ?_ | refine aY ?_ _)); exact bC.out)) : cZ ≠ jL)); have n6_ := aA.mk ((by rw [hg]; exact Nat.ne_of_gt (gG (g := cZ) (o := .cells #[.slice dO aW.length dP, .bool bV, .int .i64 bW, .int .i64 bY, .int .i64 eX, .int .u64 fA, .int .u64 eH, .bool fK, .slice (some rW) eP.length qI, .int .i64 iL] 33 (0, 0)) (by (with_reducible repeat (first | refine bT ?_ _ | refine bI ?_ | refine aY ?_ _)); exact bC.out)) : jL ≠ cZ)); clear bC; clear HB; have bC := n0_; have HB := n1_; have kL := n2_; have qbN := n3_; have KN := n4_; have gJ := n5_; have qJ := n6_; clear n0_ n1_ n2_ n3_ n4_ n5_ n6_; clear hb hbox hg; have qiX := qJ.out; have qiY := gJ.out; have qhB : w33.cell? ⟨jL, 0, none⟩ = some (.int .u64 0) := (aG kL.out 0).trans rfl; have qhC : w33.cell? ⟨jL, 1, none⟩ = some (.string (⟨#[]⟩ : ByteArray)) := (aG kL.out 1).trans rfl; have qhD : w33.cell? ⟨jL, 2, none⟩ = some (.bool false) := (aG kL.out 2).trans rfl; have qhE := aC kL.out 0; have qhF := aC kL.out 1; have qhG := aC kL.out 2))
                  go_roundg k2
                  case measure => have := HJ1.out; have := HK2.out; omega
                  case rel => exact ⟨(false), (IntKind.u64.wrap (((dN eP fQ).f0) + 1)), (wrap64 (fQ + 1)), (by first | rfl | (simp; done) | (simp [*]; done)), (by first | rfl | (simp; done) | (simp [*]; done)), (by first | rfl | (simp; done) | (simp [*]; done)), H', ⟨by have := HJ1.out; have := HK2.out; omega⟩, ⟨by (with_reducible repeat (first | refine bT ?_ _ | refine bI ?_ | refine aY ?_ _)); refine dF ?_ gJ.out _; (with_reducible repeat (first | refine bT ?_ _ | refine bI ?_ | refine aY ?_ _)); refine dF ?_ gJ.out _; (with_reducible repeat (first | refine bT ?_ _ | refine bI ?_ | refine aY ?_ _)); refine dF ?_ gJ.out _; (with_reducible repeat (first | refine bT ?_ _ | refine bI ?_ | refine aY ?_ _)); exact bC.out⟩, ⟨by repeat (first | (with_reducible first | exact HB.out | apply aQ | apply aT | apply aV | refine bH ?_ lN.out | refine bH ?_ KN.out) | exact HB.out)⟩⟩
              · rw [if_neg c19] at H
                exact absurd H (by simp)
            · rw [if_neg c18] at H
              exact absurd H (by simp)
          · rw [if_neg c17] at H
            have qfj : decide (fQ < (eP.length : Int)) = false := decide_eq_false c17
            clear c17
            by_cases c36 : qbM = true
            · subst c36
              have H1 : (some 0) = some r := by rw [if_pos rfl] at H; exact H
              clear H
              have H := H1
              clear H1
              obtain rfl := Option.some.inj H
              go_wp2
              go_ret
              exact ⟨by first | rfl | (simp [gV, gW] <;> rfl) | (simp [*, gV, gW] <;> rfl), by repeat (first | (with_reducible first | exact HB.out | apply aQ | apply aT | apply aV | refine bH ?_ lN.out) | exact HB.out)⟩
            · replace c36 := Bool.eq_false_iff.mpr c36
              subst c36
              have H1 : (some 6) = some r := by rw [if_neg (show ¬ (false = true) by decide)] at H; exact H
              clear H
              have H := H1
              clear H1
              obtain rfl := Option.some.inj H
              go_wp2
              go_ret
              exact ⟨by first | rfl | (simp [gV, gW] <;> rfl) | (simp [*, gV, gW] <;> rfl), by repeat (first | (with_reducible first | exact HB.out | apply aQ | apply aT | apply aV | refine bH ?_ lN.out) | exact HB.out)⟩
end Go.Proofs.U
namespace Go.Proofs.U
open Go.RowKit Go.Proofs.YW.PrintWords Go.Proofs.YW.PrintLast Go.Proofs.YW.PrintMore Go.Proofs.Sp Go.Proofs.fG
def tX (nx : Int) : Int → List S41 → Prop
 | _, [] => True
 | least, e :: r => e.f1.size < 65536 ∧ least ≤ e.f0 ∧ e.f0 < nx ∧ tX nx (e.f0 + 1) r
def okQ (Q : Qu) : Prop := okL Q.L ∧ 1 ≤ Q.most ∧ Q.most ≤ 1024 ∧ Q.es.length ≤ 1024 ∧ tX Q.L.nx Q.L.fr Q.es
def Qz : Qu := ⟨Lz, [], 0⟩
theorem qbO {l : List S41} {i : Nat} {x : S41} (hx : l[i]? = some x) : dN l (i : Int) = x := by
 simp [dN, List.getD, hx]
open Classical in
theorem KO (l : List S67) (dn : Bool) (fu fa size fr nx : Int) (br : Bool) (es : List S41) (most : Int) (hl : es.length ≤ 9223372036854775807) : ∀ (f i : Nat) (ok : Bool) (least : Int), i ≤ es.length → es.length - i < f → (ok = true → 0 ≤ least ∧ nx ≤ 4611686018427387904) →
    bJ.l0 f ok least es (es.length : Int) (i : Int) l dn fu fa size fr nx br es most = some (if ok = true ∧ tX nx least (es.drop i) then 0 else 6)
  | 0, i, ok, least, hi, hf, hk => by omega
  | f + 1, i, ok, least, hi, hf, hk => by
    rw [bJ.l0]
    by_cases h : i < es.length
    · obtain ⟨x, hx⟩ : ∃ x, es[i]? = some x := ⟨_, List.getElem?_eq_getElem h⟩
      have hd : es.drop i = x :: es.drop (i + 1) := by
        rw [List.drop_eq_getElem_cons h]
        congr 1
        rw [List.getElem?_eq_getElem h] at hx
        exact Option.some.inj hx
      rw [if_pos (by omega), if_pos (by omega), if_pos (by omega), qbO hx, hd]
      have e : wrap64 ((i : Int) + 1) = ((i + 1 : Nat) : Int) := by
        unfold wrap64
        omega
      rw [e]
      have ih := fun ok least => KO l dn fu fa size fr nx br es most hl f (i + 1) ok least (by omega) (by omega)
      cases ok with
      | false =>
        rw [if_neg (by simp), ih false _ (fun h => by cases h), if_neg (by simp), if_neg (by simp)]
      | true =>
        obtain ⟨hk0, hk1⟩ := hk rfl
        rw [if_pos rfl]
        by_cases h1 : (x.f1.size : Int) < 65536
        · rw [if_pos h1]
          by_cases h2 : x.f0 ≥ least
          · rw [if_pos h2]
            by_cases h3 : x.f0 < nx
            · have ew : IntKind.u64.wrap (x.f0 + 1) = x.f0 + 1 := by
                rw [IntKind.wrap_u64]
                omega
              rw [ew, decide_eq_true h3, ih true _ (fun _ => ⟨by omega, hk1⟩)]
              congr 1
              by_cases h4 : tX nx (x.f0 + 1) (es.drop (i + 1))
              · rw [if_pos ⟨rfl, h4⟩, if_pos ⟨rfl, by omega, by omega, h3, h4⟩]
              · rw [if_neg (fun g => h4 g.2), if_neg (fun g => h4 g.2.2.2.2)]
            · rw [decide_eq_false h3, ih false _ (fun h => by cases h), if_neg (by simp), if_neg (fun g => h3 g.2.2.2.1)]
          · rw [if_neg h2, ih false _ (fun h => by cases h), if_neg (by simp), if_neg (fun g => h2 g.2.2.1)]
        · rw [if_neg h1, ih false _ (fun h => by cases h), if_neg (by simp), if_neg (fun g => h1 (by have := g.2.1; omega))]
    · rw [if_neg (by omega), List.drop_eq_nil_of_le (by omega)]
      cases ok
      · rfl
      · rw [if_pos rfl, if_pos ⟨rfl, trivial⟩]
open Classical in
theorem I7 (Q : Qu) (h0 : 0 ≤ Q.L.fr) (hl : Q.es.length ≤ 9223372036854775807) :
    bJ.f (Q.es.length + 3) Q.L.l Q.L.dn Q.L.fu Q.L.fa Q.L.size Q.L.fr Q.L.nx Q.L.br Q.es Q.most = some (if okQ Q then 0 else 6) := by
  obtain ⟨⟨l, dn, fu, fa, size, fr, nx, br⟩, es, most⟩ := Q
  simp only at h0 hl ⊢
  rw [bJ.f]
  have hc := yE ⟨l, dn, fu, fa, size, fr, nx, br⟩
  simp only at hc
  rw [hc, Option.bind_some]
  by_cases hL : okL ⟨l, dn, fu, fa, size, fr, nx, br⟩
  · rw [if_pos hL, if_pos rfl]
    have hnx : nx ≤ 4611686018427387904 := hL.2.2.2.2
    have hj : ∀ ok : Bool, bJ.j0 (es.length + 3) ok l dn fu fa size fr nx br es most = some (if ok = true ∧ tX nx fr es then 0 else 6) := fun ok => by
      rw [bJ.j0]
      have := KO l dn fu fa size fr nx br es most hl (es.length + 2) 0 ok fr (by omega) (by omega) (fun _ => ⟨h0, hnx⟩)
      rw [List.drop_zero] at this
      exact this
    by_cases hm : most ≥ 1
    · rw [if_pos hm, hj]
      congr 1
      by_cases hx : mx most (es.length : Int) ≤ 1024
      · rw [decide_eq_true hx]
        have h2 : most ≤ 1024 ∧ es.length ≤ 1024 := by
          unfold mx at hx
          split at hx <;> omega
        by_cases h3 : tX nx fr es
        · rw [if_pos ⟨rfl, h3⟩, if_pos ⟨hL, hm, h2.1, h2.2, h3⟩]
        · rw [if_neg (fun g => h3 g.2), if_neg (fun g => h3 g.2.2.2.2)]
      · rw [decide_eq_false hx, if_neg (by simp), if_neg (fun g => hx ?_)]
        have g1 := g.2.2.1
        have g2 := g.2.2.2.1
        simp only at g1 g2
        unfold mx
        split <;> omega
    · rw [if_neg hm, hj, if_neg (by simp), if_neg (fun g => hm g.2.1)]
  · rw [if_neg hL, if_neg (by decide)]
    rw [bJ.j0]
    have := KO l dn fu fa size fr nx br es most hl (es.length + 2) 0 false fr (by omega) (by omega) (fun h => by cases h)
    simp only [Int.natCast_zero] at this ⊢
    rw [this, if_neg (by simp), if_neg (fun g => hL g.1)]
theorem yG {P : Program} {fn : Func} {R : Ending → World → Prop} {t t' : Array Value} (h : ∀ w, (results fn t).run P w = (results fn t').run P w) : ∀ (ds : List Deferred) (u : FrameMode) (w : World), Leaves P fn t R ds u w → Leaves P fn t' R ds u w
 | [], .returning, w, ⟨v, hv, hR⟩ => ⟨v, by rw [← h]; exact hv, hR⟩
 | [], .panicking _, w, hR => hR
 | [], .run, w, hR => hR
 | d :: ds, u, w, ⟨hu, fv, cap, f, args, h1, h2, h3⟩ => ⟨hu, fv, cap, f, args, h1, h2, h3.mono fun e u' w' hh => by
  cases e with
  | returned v => exact yG h ds _ _ hh
  | panicked c => exact yG h ds _ _ hh
  | outgrown => exact hh⟩
theorem kF {N : Tmp} {v : Value} {c : List PanicEntry} {a : Act} {w : World} {R : Ending → World → Prop} (h4 : N ≠ 4) (h5 : N ≠ 5) (h : Leaves Tryz.prog Tryz.f52 (a.put (some N) v).tmps R (a.put (some N) v).defers (.panicking c) w) :
  Leaves Tryz.prog Tryz.f52 a.tmps R a.defers (.panicking c) w := by
 refine yG (fun w => ?_) _ _ _ h
 have e4 : (a.tmps.setIfInBounds N v)[4]? = a.tmps[4]? := Array.getElem?_setIfInBounds_ne h4
 have e5 : (a.tmps.setIfInBounds N v)[5]? = a.tmps[5]? := Array.getElem?_setIfInBounds_ne h5
 simp [results, Tryz.results52, Act.put, e4, e5]
set_option maxHeartbeats 4000000 in
theorem TI (g2 g4 g5 : Nat) (w : World) :
  CallsD Tryz.prog 101 #[.pointer (some ⟨g2, 0, none⟩), .pointer (some ⟨g4, 0, none⟩), .pointer (some ⟨g5, 0, none⟩)] .returning w fun e u' w' => e = .returned (.tuple #[]) ∧ u' = .returning ∧ w' = w := by
 refine callsD_of_wpS Tryz.func101 rfl fun c₀ cs hu => ?_
 apply wpS_seq
 apply wpS_region
 simp [wpOpsS, go_sem, recoverD, hu, Tryz.ntmps101, Exit.thenS]
 apply wpS_seq
 apply wpS_region
 simp [wpOpsS, go_sem, recoverD, hu, Tryz.ntmps101, Exit.thenS]
 refine wpS_cond (t := false) (by simp [Act.eval, Array.replicate]) ?_
 simp only [Bool.false_eq_true, if_false]
 refine wpS_of_wp (wp_skip ?_)
 cases c₀
 simp_all [bodyPostS, results, Tryz.results101]
set_option maxHeartbeats 4000000 in
theorem vK {b w : World} {rs : List Res} (g2 g4 g5 gl : Nat) (x5 : Value) (A : Option Addr) (c : Nat) (B : Option Addr) (d : Nat) (Q : Qu) (n : Int) (older : List PanicEntry) (H0 : aA (Sep b w (box g5 [x5] 34 :: box g4 [.slice none 0 0, .bool false, .int .i64 0, .int .i64 0, .int .i64 0, .int .u64 0, .int .u64 0, .bool false, .slice none 0 0, .int .i64 0] 33 :: box g2 [.pointer (some ⟨gl, 0, none⟩)] 98 :: box gl (qc A c B d Q) 101 :: rs))) :
  CallsD Tryz.prog 101 #[.pointer (some ⟨g2, 0, none⟩), .pointer (some ⟨g4, 0, none⟩), .pointer (some ⟨g5, 0, none⟩)] (.panicking ({ v := .iface 34 (.int .i64 n), recovered := false } :: older)) w fun e u' w' => e = .returned (.tuple #[]) ∧ u' = .panicking ({ v := .iface 34 (.int .i64 n), recovered := true } :: older) ∧ aA (Sep b w' (box g5 [.int .i64 n] 34 :: box g4 (qc A c B d Q) 33 :: box g2 [.pointer (some ⟨gl, 0, none⟩)] 98 :: box gl (qc A c B d Q) 101 :: rs)) := by
 have H : aA (Sep b w (box g5 [x5] 34 :: box g4 [.slice none 0 0, .bool false, .int .i64 0, .int .i64 0, .int .i64 0, .int .u64 0, .int .u64 0, .bool false, .slice none 0 0, .int .i64 0] 33 :: box g2 [.pointer (some ⟨gl, 0, none⟩)] 98 :: box gl [.slice A Q.L.l.length c, .bool Q.L.dn, .int .i64 Q.L.fu, .int .i64 Q.L.fa, .int .i64 Q.L.size, .int .u64 Q.L.fr, .int .u64 Q.L.nx, .bool Q.L.br, .slice B Q.es.length d, .int .i64 Q.most] 101 :: rs)) := H0
 clear H0
 have c_5 := H.out.cell (g := g5) aJ
 have z_5 := H.out.frozen (g := g5) aJ
 have c_4 := H.out.cell (g := g4) mem1
 have z_4 := H.out.frozen (g := g4) mem1
 have c_2 := H.out.cell (g := g2) mem2
 have z_2 := H.out.frozen (g := g2) mem2
 have c_l := H.out.cell (g := gl) mem3
 have z_l := H.out.frozen (g := gl) mem3
 have hta : ∀ w, (Instr.typeAssert (.iface 34 (.int .i64 n)) 20 34 false).run Tryz.prog w = .ok (.int .i64 n) w := fun w => by simp [Instr.typeAssert, go_sem, Tryz.underlying34]
 have hne : ¬ g5 = g4 := (List.pairwise_cons.1 H.out.apart).1 _ (List.mem_cons_self ..) g5 rfl
 have hne2 : ¬ g4 = g5 := fun e => hne e.symm
 refine callsD_of_wpS Tryz.func101 rfl fun c₀ cs hu => ?_
 simp only [List.size_toArray, List.length_cons, List.length_nil, Tryz.ntmps101, Nat.reduceAdd, Nat.reduceSub, Array.replicate_succ, Array.replicate_zero, List.push_toArray, List.append_toArray, List.nil_append, List.cons_append]
 apply wpS_seq
 apply wpS_region
 simp [wpOpsS, go_sem, recoverD, hu, Tryz.ntmps101, Exit.thenS]
 apply wpS_seq
 apply wpS_region
 simp [wpOpsS, go_sem, recoverD, hu, Tryz.ntmps101, Exit.thenS]
 refine wpS_cond (t := true) (by simp [Act.eval, Array.replicate]) ?_
 simp only [if_true]
 refine wpS_of_wp ?_
 go_region
 have h9 : Sep b _ (box g5 [.int .i64 n] 34 :: box g4 [.slice A Q.L.l.length c, .bool Q.L.dn, .int .i64 Q.L.fu, .int .i64 Q.L.fa, .int .i64 Q.L.size, .int .u64 Q.L.fr, .int .u64 Q.L.nx, .bool Q.L.br, .slice B Q.es.length d, .int .i64 Q.most] 33 :: box g2 [.pointer (some ⟨gl, 0, none⟩)] 98 :: box gl [.slice A Q.L.l.length c, .bool Q.L.dn, .int .i64 Q.L.fu, .int .i64 Q.L.fa, .int .i64 Q.L.size, .int .u64 Q.L.fr, .int .u64 Q.L.nx, .bool Q.L.br, .slice B Q.es.length d, .int .i64 Q.most] 101 :: rs) := (Sep.drew (Sep.set0 (Sep.set1 (Sep.set1 (Sep.set1 (Sep.set1 (Sep.set1 (Sep.set1 (Sep.set1 (Sep.set1 (Sep.set1 (Sep.set1 H.out 0 (.slice A Q.L.l.length c) rfl) 1 (.bool Q.L.dn) rfl) 2 (.int .i64 Q.L.fu) rfl) 3 (.int .i64 Q.L.fa) rfl) 4 (.int .i64 Q.L.size) rfl) 5 (.int .u64 Q.L.fr) rfl) 6 (.int .u64 Q.L.nx) rfl) 7 (.bool Q.L.br) rfl) 8 (.slice B Q.es.length d) rfl) 9 (.int .i64 Q.most) rfl) 0 (.int .i64 n) rfl))
 cases c₀
 exact ⟨rfl, _, rfl, _, results_none rfl _ _ _, rfl, rfl, ⟨h9⟩⟩
def zM (b : World) (fdo : Nat) (lb : List Value) (Q : Qu) (rs rs' : List Res) (R : Qu) (n : Int) : Prop :=
 ∀ (gl : Nat) (A : Option Addr) (c : Nat) (B : Option Addr) (d : Nat) (w : World) (ts : List Res), aA (Sep b w (box gl (qc A c B d Q) 101 :: oJ A c Q.L.l :: qH B d Q.es :: (rs ++ ts))) →
  Calls Tryz.prog fdo (.pointer (some ⟨gl, 0, none⟩) :: lb).toArray w fun e w' => Ends n e ∧ ∃ A' c' B' d', aA (Sep b w' (box gl (qc A' c' B' d' R) 101 :: oJ A' c' R.L.l :: qH B' d' R.es :: (rs' ++ ts)))
set_option maxHeartbeats 8000000 in
theorem wP {b w : World} {rs rs' : List Res} {fdo : Nat} {lb : List Value} (A : Option Addr) (c : Nat) (B : Option Addr) (d : Nat) (Q : Qu) (R : Qu) (n : Int) (hr : Kd.C k67 b A Q.L.l.length Q.L.l) (hc : Q.L.l.length ≤ c) (hre : Kd.C k41 b B Q.es.length Q.es) (hce : Q.es.length ≤ d) (h0 : 0 ≤ Q.L.fr)
  (he : ∀ args w, (callFunc fdo args).run Tryz.prog w = .ok (.enter fdo args) w) (H0 : aA (Sep b w rs))
  (hdo : (¬ okQ Q ∧ R = Qz ∧ n = 6 ∧ rs' = rs) ∨ (okQ Q ∧ Q.L.br = true ∧ R = Q ∧ n = 6 ∧ rs' = rs) ∨ (okQ Q ∧ Q.L.br = false ∧ zM b fdo lb Q rs rs' R n)) :
  Calls Tryz.prog 52 #[.agg (qc A c B d Q).toArray, .func (.func fdo) #[] lb.toArray] w fun e w' => ∃ A' c' B' d', e = .returned (.tuple #[.agg (qc A' c' B' d' R).toArray, .int .i64 n]) ∧ aA (Sep b w' (oJ A' c' R.L.l :: qH B' d' R.es :: rs')) := by
 have HRp := aA.mk hr
 have HCp := aA.mk hc
 have HRe := aA.mk hre
 have HCe := aA.mk hce
 have HF0 := aA.mk h0
 have HEL : aA (Q.es.length ≤ 9223372036854775807) := ⟨Kd.WE hre⟩
 have hmf : ∀ (fn : Fn) (first cap : Array Value) (w : World), (Instr.makeFunc fn first cap).run Tryz.prog w = .ok (.func fn first cap) w := fun _ _ _ _ => rfl
 have H : aA (Sep b w rs) := H0
 have HDO := aA.mk hdo
 clear hr hc hre hce h0 H0 hdo
 simp only [qc, lgc, List.cons_append, List.nil_append]
 go_enter_defers Tryz.func52, Tryz.ntmps52
 go_wp2_with (first
 |((with_reducible refine aP (N := 2) rfl ?_);
   refine bG rfl H (cs := [.slice A Q.L.l.length c, .bool Q.L.dn, .int .i64 Q.L.fu, .int .i64 Q.L.fa, .int .i64 Q.L.size, .int .u64 Q.L.fr, .int .u64 Q.L.nx, .bool Q.L.br, .slice B Q.es.length d, .int .i64 Q.most]) (t := 33) ?hr ?_;
   (case hr => first | (go_simp; done) | (go_simp; rfl));
   intro gq wd1 n_;
   simp only [Act.put, zA, zZ, zS];
   clear H;
   have H := n_;
   clear n_;
   have c_q := H.out.cell (g := gq) aJ)
 |((with_reducible refine aP (N := 4) rfl ?_);
   refine bG rfl H (cs := [.slice none 0 0, .bool false, .int .i64 0, .int .i64 0, .int .i64 0, .int .u64 0, .int .u64 0, .bool false, .slice none 0 0, .int .i64 0]) (t := 33) ?hr ?_;
   (case hr => first | (go_simp; done) | (go_simp; rfl));
   intro g4 wd2 n_;
   simp only [Act.put, zA, zZ, zS];
   clear H c_q;
   have H := n_;
   clear n_;
   have c_4 := H.out.cell (g := g4) aJ;
   have c_q := H.out.cell (g := gq) mem1)
 |((with_reducible refine aP (N := 5) rfl ?_);
   refine bG rfl H (cs := [.int .i64 0]) (t := 34) ?hr ?_;
   (case hr => first | (go_simp; done) | (go_simp; rfl));
   intro g5 wd3 n_;
   simp only [Act.put, zA, zZ, zS];
   clear H c_4 c_q;
   have H := n_;
   clear n_;
   have c_5 := H.out.cell (g := g5) aJ;
   have c_4 := H.out.cell (g := g4) mem1;
   have c_q := H.out.cell (g := gq) mem2)
 |fail)
 by_cases hok : okQ Q
 ·
  refine ((bJ.calls (Q.es.length + 3) A c Q.L.l Q.L.dn Q.L.fu Q.L.fa Q.L.size Q.L.fr Q.L.nx Q.L.br B d Q.es Q.most 0 _ (H.out.came HRp.out) HCp.out (H.out.came HRe.out) HCe.out (by have h := I7 Q HF0.out HEL.out; rw [if_pos hok] at h; exact h)).mono ?_)
  rintro e wd4 ⟨rfl, hb_⟩
  have n_ : aA (Sep b wd4 (box g5 [.int .i64 0] 34 :: box g4 [.slice none 0 0, .bool false, .int .i64 0, .int .i64 0, .int .i64 0, .int .u64 0, .int .u64 0, .bool false, .slice none 0 0, .int .i64 0] 33 :: box gq [.slice A Q.L.l.length c, .bool Q.L.dn, .int .i64 Q.L.fu, .int .i64 Q.L.fa, .int .i64 Q.L.size, .int .u64 Q.L.fr, .int .u64 Q.L.nx, .bool Q.L.br, .slice B Q.es.length d, .int .i64 Q.most] 33 :: rs)) := ⟨H.out.step hb_⟩
  clear H c_5 c_4 c_q
  have H := n_
  clear n_
  have c_5 := H.out.cell (g := g5) aJ
  have c_4 := H.out.cell (g := g4) mem1
  have c_q := H.out.cell (g := gq) mem2
  clear hb_
  have hfl : Q.L.l.length ≤ 64 := kK hok.1.1
  have hel : Q.es.length ≤ 1024 := hok.2.2.2.1
  have HFL := aA.mk hfl
  have qij := aA.mk hel
  have HOK := aA.mk hok
  clear hok hfl hel
  go_upto_region 4 with (first
 |((with_reducible refine aP (N := 13) rfl ?_);
   refine bG rfl H (cs := [.slice A Q.L.l.length c, .bool Q.L.dn, .int .i64 Q.L.fu, .int .i64 Q.L.fa, .int .i64 Q.L.size, .int .u64 Q.L.fr, .int .u64 Q.L.nx, .bool Q.L.br, .slice B Q.es.length d, .int .i64 Q.most]) (t := 101) ?hr ?_;
   (case hr => first | (go_simp; done) | (go_simp; rfl));
   intro gl wd5 n_;
   simp only [Act.put, zA, zZ, zS];
   clear H c_5 c_4 c_q;
   have H := n_;
   clear n_;
   have c_l := H.out.cell (g := gl) aJ;
   have c_5 := H.out.cell (g := g5) mem1;
   have c_4 := H.out.cell (g := g4) mem2;
   have c_q := H.out.cell (g := gq) mem3)
 |((with_reducible refine aP (N := 6) rfl ?_);
   refine bG rfl H (cs := [.pointer none]) (t := 98) ?hr ?_;
   (case hr => first | (go_simp; done) | (go_simp; rfl));
   intro gv wd6 n_;
   simp only [Act.put, zA, zZ, zS];
   clear H c_l c_5 c_4 c_q;
   have H := n_;
   clear n_;
   have c_v := H.out.cell (g := gv) aJ;
   have z_v := H.out.frozen (g := gv) aJ;
   have c_l := H.out.cell (g := gl) mem1;
   have c_5 := H.out.cell (g := g5) mem2;
   have c_4 := H.out.cell (g := g4) mem3;
   have c_q := H.out.cell (g := gq) bK)
 |((with_reducible refine aN (t := 98) (p := 6) rfl ?_);
   refine aZ (rs1 := (box gv [.pointer (some ⟨gl, 0, none⟩)] 98 :: box gl [.slice A Q.L.l.length c, .bool Q.L.dn, .int .i64 Q.L.fu, .int .i64 Q.L.fa, .int .i64 Q.L.size, .int .u64 Q.L.fr, .int .u64 Q.L.nx, .bool Q.L.br, .slice B Q.es.length d, .int .i64 Q.most] 101 :: box g5 [.int .i64 0] 34 :: box g4 [.slice none 0 0, .bool false, .int .i64 0, .int .i64 0, .int .i64 0, .int .u64 0, .int .u64 0, .bool false, .slice none 0 0, .int .i64 0] 33 :: box gq [.slice A Q.L.l.length c, .bool Q.L.dn, .int .i64 Q.L.fu, .int .i64 Q.L.fa, .int .i64 Q.L.size, .int .u64 Q.L.fr, .int .u64 Q.L.nx, .bool Q.L.br, .slice B Q.es.length d, .int .i64 Q.most] 33 :: rs)) rfl (t := 98) (p := 6) rfl rfl ?hr (H1 := (Sep.set0 H.out 0 (.pointer (some ⟨gl, 0, none⟩)) rfl)) ?_;
   (case hr => first | (go_simp; done) | (go_simp; rfl));
   intro wd7 n_;
   clear H c_v z_v c_l c_5 c_4 c_q;
   have H := n_;
   clear n_;
   have c_v := H.out.cell (g := gv) aJ;
   have z_v := H.out.frozen (g := gv) aJ;
   have c_l := H.out.cell (g := gl) mem1;
   have c_5 := H.out.cell (g := g5) mem2;
   have c_4 := H.out.cell (g := g4) mem3;
   have c_q := H.out.cell (g := gq) bK)
 |fail)
  clear c_v z_v c_l c_5 c_4 c_q
  have c_v := H.out.cell (g := gv) aJ
  have c_l := H.out.cell (g := gl) mem1
  have z_l := H.out.frozen (g := gl) mem1
  have c_5 := H.out.cell (g := g5) mem2
  have c_4 := H.out.cell (g := g4) mem3
  have c_q := H.out.cell (g := gq) bK
  refine gX (n := 8) (S := fun w' => (∀ j : Nat, w'.cell? ⟨gv, j, none⟩ = [.pointer (some ⟨gl, 0, none⟩)][j]?) ∧ (∀ j : Nat, w'.cell? ⟨gq, j, none⟩ = [.slice A Q.L.l.length c, .bool Q.L.dn, .int .i64 Q.L.fu, .int .i64 Q.L.fa, .int .i64 Q.L.size, .int .u64 Q.L.fr, .int .u64 Q.L.nx, .bool Q.L.br, .slice B Q.es.length d, .int .i64 Q.most][j]?) ∧ (∀ j : Nat, w'.frozen? ⟨gl, j, none⟩ = false) ∧ Sp.Sep b w' (box gv [.pointer (some ⟨gl, 0, none⟩)] 98 :: box gl [.slice A Q.L.l.length c, .bool Q.L.dn, .int .i64 Q.L.fu, .int .i64 Q.L.fa, .int .i64 Q.L.size, .int .u64 Q.L.fr, .int .u64 Q.L.nx, .bool Q.L.br, .slice B Q.es.length d, .int .i64 Q.most] 101 :: box g5 [.int .i64 0] 34 :: box g4 [.slice none 0 0, .bool false, .int .i64 0, .int .i64 0, .int .i64 0, .int .u64 0, .int .u64 0, .bool false, .slice none 0 0, .int .i64 0] 33 :: box gq [.slice A Q.L.l.length c, .bool Q.L.dn, .int .i64 Q.L.fu, .int .i64 Q.L.fa, .int .i64 Q.L.size, .int .u64 Q.L.fr, .int .u64 Q.L.nx, .bool Q.L.br, .slice B Q.es.length d, .int .i64 Q.most] 33 :: rs)) (ds := [7]) #[false, false, false, false, false, false, false, false] (by kernel_rfl) rfl rfl ⟨(fun j => ((Sep.drew H.out)).cell (g := gv) aJ j), (fun j => ((Sep.drew H.out)).cell (g := gq) bK j), (fun j => ((Sep.drew H.out)).frozen (g := gl) mem1 j), (Sep.drew H.out)⟩ (fun hHeld => ?_)
  refine puS (i := 1) (N := some 15) (v := ?_) (a' := ?_) rfl rfl (by kernel_rfl) (fun _ _ _ h => kF (N := 15) (by decide) (by decide) h) (Or.inl ⟨by rfl, ?_⟩) ?_ ?_
  rotate_left
  ·intro w'
   go_simp
   with_reducible rfl
  rotate_left
  ·simp only [Act.put, zA, zZ, zS, aH, aI]
   rfl
  refine tkS (i := 0) (N := some 14) (v := ?_) (a' := ?_) rfl rfl (by kernel_rfl) (fun _ _ _ h => kF (N := 14) (by decide) (by decide) h) (Or.inl ⟨by rfl, ?_⟩) hHeld ?_ ?_
  rotate_left
  ·rintro w' ⟨s0, s1, s2, s3⟩
   go_simp
   with_reducible rfl
  rotate_left
  ·simp only [Act.put, zA, zZ, zS, aH, aI]
   rfl
  refine tkS (i := 2) (N := some 16) (v := ?_) (a' := ?_) rfl rfl (by kernel_rfl) (fun _ _ _ h => kF (N := 16) (by decide) (by decide) h) (Or.inl ⟨by rfl, ?_⟩) hHeld ?_ ?_
  rotate_left
  ·rintro w' ⟨s0, s1, s2, s3⟩
   go_simp
   with_reducible rfl
  rotate_left
  ·simp only [Act.put, zA, zZ, zS, aH, aI]
   rfl
  refine onS (i := 3) (N := some 17) rfl rfl (by kernel_rfl) (by decide) (fun K hK => ?_)
  refine qP Tryz.func100 (by kernel_rfl) rfl #[.slice B Q.es.length d] (by rfl) rfl rfl (by simp only [List.map_toArray, List.map_cons, List.map_nil]; rfl) ?_
  with_reducible refine (qbG B d Q.es _ (Sep.came hHeld.2.2.2 HRe.out) HCe.out qij.out).mono ?_
  rintro e w5 ⟨Ae, ce, rfl, HJ⟩
  have HN := eY hHeld.2.2.2 HJ.out
  have f5 := fun j => HN.frozen (g := gl) mem2 j
  have k5 := fun j => HN.cell (g := gl) mem2 j
  refine ⟨_, rfl, ?_⟩
  refine hK.out _ _ ⟨(fun j => HN.cell (g := gv) mem1 j), (fun j => HN.cell (g := gq) dJ j), f5, HN.dV⟩ (fun hHeld => ?_)
  clear hK K
  refine fU (a' := ?_) ?_ ?_
  rotate_left
  ·show Act.put _ (some 17) _ = _
   simp only [Act.put, zA, zZ, zS, aH, aI]
   rfl
  refine puS (i := 4) (N := some 18) (v := ?_) (a' := ?_) rfl rfl (by kernel_rfl) (fun _ _ _ h => kF (N := 18) (by decide) (by decide) h) (Or.inl ⟨by rfl, ?_⟩) ?_ ?_
  rotate_left
  ·intro w'
   go_simp
   with_reducible rfl
  rotate_left
  ·simp only [Act.put, zA, zZ, zS, aH, aI]
   rfl
  refine puS (i := 5) (N := some 19) (v := ?_) (a' := ?_) rfl rfl (by kernel_rfl) (fun _ _ _ h => kF (N := 19) (by decide) (by decide) h) (Or.inl ⟨by rfl, ?_⟩) ?_ ?_
  rotate_left
  ·intro w'
   go_simp
   with_reducible rfl
  rotate_left
  ·simp only [Act.put, zA, zZ, zS, aH, aI]
   rfl
  refine puS (i := 6) (N := some 20) (v := ?_) (a' := ?_) rfl rfl (by kernel_rfl) (fun _ _ _ h => kF (N := 20) (by decide) (by decide) h) (Or.inl ⟨by rfl, ?_⟩) ?_ ?_
  rotate_left
  ·intro w'
   go_simp
   with_reducible rfl
  rotate_left
  ·simp only [Act.put, zA, zZ, zS, aH, aI]
   rfl
  refine laS (i := 7) (N := none) rfl rfl (by kernel_rfl) (by decide) (fun K hK => ?_)
  refine xK (w1 := ?_) (by rfl) rfl ?_ ?_
  rotate_left
  ·go_simp
   rfl
  refine hK.out _ _ ?_
  clear hK K
  refine jM (by kernel_rfl) ?_
  refine qQ (rs := (row k41 41 (.slice Ae (Q.es).length ce) Q.es :: box gv [.pointer (some ⟨gl, 0, none⟩)] 98 :: box gl [.slice A Q.L.l.length c, .bool Q.L.dn, .int .i64 Q.L.fu, .int .i64 Q.L.fa, .int .i64 Q.L.size, .int .u64 Q.L.fr, .int .u64 Q.L.nx, .bool Q.L.br, .slice Ae Q.es.length ce, .int .i64 Q.most] 101 :: box g5 [.int .i64 0] 34 :: box g4 [.slice none 0 0, .bool false, .int .i64 0, .int .i64 0, .int .i64 0, .int .u64 0, .int .u64 0, .bool false, .slice none 0 0, .int .i64 0] 33 :: box gq [.slice A Q.L.l.length c, .bool Q.L.dn, .int .i64 Q.L.fu, .int .i64 Q.L.fa, .int .i64 Q.L.size, .int .u64 Q.L.fr, .int .u64 Q.L.nx, .bool Q.L.br, .slice B Q.es.length d, .int .i64 Q.most] 33 :: rs)) (Sep.set2 HN 8 (.slice Ae Q.es.length ce) rfl) ?_
  clear HN f5 k5 HJ
  intro wd8 n_
  clear H c_v c_l z_l c_5 c_4 c_q
  have H := n_
  clear n_
  have c_v := H.out.cell (g := gv) mem1
  have c_l := H.out.cell (g := gl) mem2
  have z_l := H.out.frozen (g := gl) mem2
  have c_5 := H.out.cell (g := g5) mem3
  have c_4 := H.out.cell (g := g4) bK
  have c_q := H.out.cell (g := gq) dJ
  go_upto_region 5 with fail
  refine gX (n := 12) (S := fun w' => (∀ j : Nat, w'.cell? ⟨gv, j, none⟩ = [.pointer (some ⟨gl, 0, none⟩)][j]?) ∧ (∀ j : Nat, w'.cell? ⟨gq, j, none⟩ = [.slice A Q.L.l.length c, .bool Q.L.dn, .int .i64 Q.L.fu, .int .i64 Q.L.fa, .int .i64 Q.L.size, .int .u64 Q.L.fr, .int .u64 Q.L.nx, .bool Q.L.br, .slice B Q.es.length d, .int .i64 Q.most][j]?) ∧ (∀ j : Nat, w'.frozen? ⟨gl, j, none⟩ = false) ∧ Sp.Sep b w' (row k41 41 (.slice Ae (Q.es).length ce) Q.es :: box gv [.pointer (some ⟨gl, 0, none⟩)] 98 :: box gl [.slice A Q.L.l.length c, .bool Q.L.dn, .int .i64 Q.L.fu, .int .i64 Q.L.fa, .int .i64 Q.L.size, .int .u64 Q.L.fr, .int .u64 Q.L.nx, .bool Q.L.br, .slice Ae Q.es.length ce, .int .i64 Q.most] 101 :: box g5 [.int .i64 0] 34 :: box g4 [.slice none 0 0, .bool false, .int .i64 0, .int .i64 0, .int .i64 0, .int .u64 0, .int .u64 0, .bool false, .slice none 0 0, .int .i64 0] 33 :: box gq [.slice A Q.L.l.length c, .bool Q.L.dn, .int .i64 Q.L.fu, .int .i64 Q.L.fa, .int .i64 Q.L.size, .int .u64 Q.L.fr, .int .u64 Q.L.nx, .bool Q.L.br, .slice B Q.es.length d, .int .i64 Q.most] 33 :: rs)) (ds := [11]) #[false, false, false, false, false, false, false, false, false, false, false, false] (by kernel_rfl) rfl rfl ⟨(fun j => ((Sep.drew H.out)).cell (g := gv) mem1 j), (fun j => ((Sep.drew H.out)).cell (g := gq) dJ j), (fun j => ((Sep.drew H.out)).frozen (g := gl) mem2 j), (Sep.drew H.out)⟩ (fun hHeld => ?_)
  refine puS (i := 1) (N := some 22) (v := ?_) (a' := ?_) rfl rfl (by kernel_rfl) (fun _ _ _ h => kF (N := 22) (by decide) (by decide) h) (Or.inl ⟨by rfl, ?_⟩) ?_ ?_
  rotate_left
  ·intro w'
   go_simp
   with_reducible rfl
  rotate_left
  ·simp only [Act.put, zA, zZ, zS, aH, aI]
   rfl
  refine puS (i := 2) (N := some 23) (v := ?_) (a' := ?_) rfl rfl (by kernel_rfl) (fun _ _ _ h => kF (N := 23) (by decide) (by decide) h) (Or.inl ⟨by rfl, ?_⟩) ?_ ?_
  rotate_left
  ·intro w'
   go_simp
   with_reducible rfl
  rotate_left
  ·simp only [Act.put, zA, zZ, zS, aH, aI]
   rfl
  refine puS (i := 3) (N := some 24) (v := ?_) (a' := ?_) rfl rfl (by kernel_rfl) (fun _ _ _ h => kF (N := 24) (by decide) (by decide) h) (Or.inl ⟨by rfl, ?_⟩) ?_ ?_
  rotate_left
  ·intro w'
   go_simp
   with_reducible rfl
  rotate_left
  ·simp only [Act.put, zA, zZ, zS, aH, aI]
   rfl
  refine tkS (i := 0) (N := some 21) (v := ?_) (a' := ?_) rfl rfl (by kernel_rfl) (fun _ _ _ h => kF (N := 21) (by decide) (by decide) h) (Or.inl ⟨by rfl, ?_⟩) hHeld ?_ ?_
  rotate_left
  ·rintro w' ⟨s0, s1, s2, s3⟩
   go_simp
   with_reducible rfl
  rotate_left
  ·simp only [Act.put, zA, zZ, zS, aH, aI]
   rfl
  refine tkS (i := 4) (N := some 25) (v := ?_) (a' := ?_) rfl rfl (by kernel_rfl) (fun _ _ _ h => kF (N := 25) (by decide) (by decide) h) (Or.inl ⟨by rfl, ?_⟩) hHeld ?_ ?_
  rotate_left
  ·rintro w' ⟨s0, s1, s2, s3⟩
   go_simp
   with_reducible rfl
  rotate_left
  ·simp only [Act.put, zA, zZ, zS, aH, aI]
   rfl
  refine onS (i := 5) (N := some 26) rfl rfl (by kernel_rfl) (by decide) (fun K hK => ?_)
  refine qP Tryz.func63 (by kernel_rfl) rfl #[.slice A Q.L.l.length c] (by rfl) rfl rfl (by simp only [List.map_toArray, List.map_cons, List.map_nil]; rfl) ?_
  with_reducible refine (qbH A c Q.L.l _ (Sep.came hHeld.2.2.2 HRp.out) HCp.out HFL.out).mono ?_
  rintro e w5 ⟨Af, cf, rfl, HJ⟩
  have HN := eY hHeld.2.2.2 HJ.out
  have f5 := fun j => HN.frozen (g := gl) mem3 j
  have k5 := fun j => HN.cell (g := gl) mem3 j
  refine ⟨_, rfl, ?_⟩
  refine hK.out _ _ ⟨(fun j => HN.cell (g := gv) mem2 j), (fun j => HN.cell (g := gq) jC j), f5, HN.dV⟩ (fun hHeld => ?_)
  clear hK K
  refine fU (a' := ?_) ?_ ?_
  rotate_left
  ·show Act.put _ (some 26) _ = _
   simp only [Act.put, zA, zZ, zS, aH, aI]
   rfl
  refine puS (i := 6) (N := some 27) (v := ?_) (a' := ?_) rfl rfl (by kernel_rfl) (fun _ _ _ h => kF (N := 27) (by decide) (by decide) h) (Or.inl ⟨by rfl, ?_⟩) ?_ ?_
  rotate_left
  ·intro w'
   go_simp
   with_reducible rfl
  rotate_left
  ·simp only [Act.put, zA, zZ, zS, aH, aI]
   rfl
  refine puS (i := 7) (N := some 28) (v := ?_) (a' := ?_) rfl rfl (by kernel_rfl) (fun _ _ _ h => kF (N := 28) (by decide) (by decide) h) (Or.inl ⟨by rfl, ?_⟩) ?_ ?_
  rotate_left
  ·intro w'
   go_simp
   with_reducible rfl
  rotate_left
  ·simp only [Act.put, zA, zZ, zS, aH, aI]
   rfl
  refine puS (i := 8) (N := some 29) (v := ?_) (a' := ?_) rfl rfl (by kernel_rfl) (fun _ _ _ h => kF (N := 29) (by decide) (by decide) h) (Or.inl ⟨by rfl, ?_⟩) ?_ ?_
  rotate_left
  ·intro w'
   go_simp
   with_reducible rfl
  rotate_left
  ·simp only [Act.put, zA, zZ, zS, aH, aI]
   rfl
  refine puS (i := 9) (N := some 30) (v := ?_) (a' := ?_) rfl rfl (by kernel_rfl) (fun _ _ _ h => kF (N := 30) (by decide) (by decide) h) (Or.inl ⟨by rfl, ?_⟩) ?_ ?_
  rotate_left
  ·intro w'
   go_simp
   with_reducible rfl
  rotate_left
  ·simp only [Act.put, zA, zZ, zS, aH, aI]
   rfl
  refine puS (i := 10) (N := some 31) (v := ?_) (a' := ?_) rfl rfl (by kernel_rfl) (fun _ _ _ h => kF (N := 31) (by decide) (by decide) h) (Or.inl ⟨by rfl, ?_⟩) ?_ ?_
  rotate_left
  ·intro w'
   go_simp
   with_reducible rfl
  rotate_left
  ·simp only [Act.put, zA, zZ, zS, aH, aI]
   rfl
  refine laS (i := 11) (N := none) rfl rfl (by kernel_rfl) (by decide) (fun K hK => ?_)
  refine xK (w1 := ?_) (by rfl) rfl ?_ ?_
  rotate_left
  ·go_simp
   rfl
  refine hK.out _ _ ?_
  clear hK K
  refine jM (by kernel_rfl) ?_
  refine qQ (rs := (row k67 67 (.slice Af (Q.L.l).length cf) Q.L.l :: row k41 41 (.slice Ae (Q.es).length ce) Q.es :: box gv [.pointer (some ⟨gl, 0, none⟩)] 98 :: box gl [.slice Af Q.L.l.length cf, .bool Q.L.dn, .int .i64 Q.L.fu, .int .i64 Q.L.fa, .int .i64 Q.L.size, .int .u64 Q.L.fr, .int .u64 Q.L.nx, .bool Q.L.br, .slice Ae Q.es.length ce, .int .i64 Q.most] 101 :: box g5 [.int .i64 0] 34 :: box g4 [.slice none 0 0, .bool false, .int .i64 0, .int .i64 0, .int .i64 0, .int .u64 0, .int .u64 0, .bool false, .slice none 0 0, .int .i64 0] 33 :: box gq [.slice A Q.L.l.length c, .bool Q.L.dn, .int .i64 Q.L.fu, .int .i64 Q.L.fa, .int .i64 Q.L.size, .int .u64 Q.L.fr, .int .u64 Q.L.nx, .bool Q.L.br, .slice B Q.es.length d, .int .i64 Q.most] 33 :: rs)) (Sep.dZ HN 0 (.slice Af Q.L.l.length cf) rfl) ?_
  clear HN f5 k5 HJ
  intro wd9 n_
  clear H c_v c_l z_l c_5 c_4 c_q
  have H := n_
  clear n_
  have c_v := H.out.cell (g := gv) mem2
  have c_l := H.out.cell (g := gl) mem3
  have z_l := H.out.frozen (g := gl) mem3
  have c_5 := H.out.cell (g := g5) bK
  have c_4 := H.out.cell (g := g4) dJ
  have c_q := H.out.cell (g := gq) jC
  clear c_v c_l z_l c_5 c_4 c_q
  have c_v := H.out.cell (g := gv) mem2
  have c_l := H.out.cell (g := gl) mem3
  have c_5 := H.out.cell (g := g5) bK
  have z_5 := H.out.frozen (g := g5) bK
  have c_4 := H.out.cell (g := g4) dJ
  have z_4 := H.out.frozen (g := g4) dJ
  have c_q := H.out.cell (g := gq) jC
  cases hbr : Q.L.br
  ·
   go_wp2_with fail
   refine (sN 6 _).mono ?_
   rintro e w_ ⟨rfl, rfl⟩
   go_wp2_with fail
   have hDO : zM b fdo lb Q rs rs' R n := by
    rcases HDO.out with h | h | h
    ·exact absurd HOK.out h.1
    ·rw [h.2.1] at hbr; cases hbr
    ·exact h.2.2
   refine (hDO gl Af cf Ae ce _ [box g5 [.int .i64 0] 34, box g4 [.slice none 0 0, .bool false, .int .i64 0, .int .i64 0, .int .i64 0, .int .u64 0, .int .u64 0, .bool false, .slice none 0 0, .int .i64 0] 33, box gv [.pointer (some ⟨gl, 0, none⟩)] 98, box gq [.slice A Q.L.l.length c, .bool Q.L.dn, .int .i64 Q.L.fu, .int .i64 Q.L.fa, .int .i64 Q.L.size, .int .u64 Q.L.fr, .int .u64 Q.L.nx, .bool Q.L.br, .slice B Q.es.length d, .int .i64 Q.most] 33] ⟨Sep.perm (Sep.pU (Sep.pU (Sep.gI (Sep.pU (Sep.kZ (Sep.iP (Sep.iP H.out))))))) (List.perm_append_comm (l₁ := [box g5 [.int .i64 0] 34, box g4 [.slice none 0 0, .bool false, .int .i64 0, .int .i64 0, .int .i64 0, .int .u64 0, .int .u64 0, .bool false, .slice none 0 0, .int .i64 0] 33, box gv [.pointer (some ⟨gl, 0, none⟩)] 98, box gq [.slice A Q.L.l.length c, .bool Q.L.dn, .int .i64 Q.L.fu, .int .i64 Q.L.fa, .int .i64 Q.L.size, .int .u64 Q.L.fr, .int .u64 Q.L.nx, .bool Q.L.br, .slice B Q.es.length d, .int .i64 Q.most] 33]))⟩).mono ?_
   rintro e w2 ⟨hE, A', c', B', d', H2⟩
   clear c_v c_l c_5 z_5 c_4 z_4 c_q H
   have H : aA (Sep b w2 (box g5 [.int .i64 0] 34 :: box g4 [.slice none 0 0, .bool false, .int .i64 0, .int .i64 0, .int .i64 0, .int .u64 0, .int .u64 0, .bool false, .slice none 0 0, .int .i64 0] 33 :: box gv [.pointer (some ⟨gl, 0, none⟩)] 98 :: box gq [.slice A Q.L.l.length c, .bool Q.L.dn, .int .i64 Q.L.fu, .int .i64 Q.L.fa, .int .i64 Q.L.size, .int .u64 Q.L.fr, .int .u64 Q.L.nx, .bool Q.L.br, .slice B Q.es.length d, .int .i64 Q.most] 33 :: box gl [.slice A' R.L.l.length c', .bool R.L.dn, .int .i64 R.L.fu, .int .i64 R.L.fa, .int .i64 R.L.size, .int .u64 R.L.fr, .int .u64 R.L.nx, .bool R.L.br, .slice B' R.es.length d', .int .i64 R.most] 101 :: row k67 67 (.slice A' (R.L.l).length c') R.L.l :: row k41 41 (.slice B' (R.es).length d') R.es :: rs')) := ⟨H2.out.perm (List.perm_append_comm (l₁ := box gl (qc A' c' B' d' R) 101 :: oJ A' c' R.L.l :: qH B' d' R.es :: rs'))⟩
   clear H2
   have c_5 := H.out.cell (g := g5) aJ
   have z_5 := H.out.frozen (g := g5) aJ
   have c_4 := H.out.cell (g := g4) mem1
   have z_4 := H.out.frozen (g := g4) mem1
   have c_v := H.out.cell (g := gv) mem2
   have c_q := H.out.cell (g := gq) mem3
   have c_l := H.out.cell (g := gl) bK
   rcases hE with ⟨rfl, rfl⟩ | ⟨hn, rfl⟩
   ·
    go_wp2_with (first
 |((with_reducible refine aN (t := 33) (p := 4) rfl ?_);
   refine aZ (rs1 := (box g5 [.int .i64 0] 34 :: box g4 [.slice A' R.L.l.length c', .bool R.L.dn, .int .i64 R.L.fu, .int .i64 R.L.fa, .int .i64 R.L.size, .int .u64 R.L.fr, .int .u64 R.L.nx, .bool R.L.br, .slice B' R.es.length d', .int .i64 R.most] 33 :: box gv [.pointer (some ⟨gl, 0, none⟩)] 98 :: box gq [.slice A Q.L.l.length c, .bool Q.L.dn, .int .i64 Q.L.fu, .int .i64 Q.L.fa, .int .i64 Q.L.size, .int .u64 Q.L.fr, .int .u64 Q.L.nx, .bool Q.L.br, .slice B Q.es.length d, .int .i64 Q.most] 33 :: box gl [.slice A' R.L.l.length c', .bool R.L.dn, .int .i64 R.L.fu, .int .i64 R.L.fa, .int .i64 R.L.size, .int .u64 R.L.fr, .int .u64 R.L.nx, .bool R.L.br, .slice B' R.es.length d', .int .i64 R.most] 101 :: row k67 67 (.slice A' (R.L.l).length c') R.L.l :: row k41 41 (.slice B' (R.es).length d') R.es :: rs')) rfl (t := 33) (p := 4) rfl rfl ?hr (H1 := (Sep.set1 (Sep.set1 (Sep.set1 (Sep.set1 (Sep.set1 (Sep.set1 (Sep.set1 (Sep.set1 (Sep.set1 (Sep.set1 H.out 0 (.slice A' R.L.l.length c') rfl) 1 (.bool R.L.dn) rfl) 2 (.int .i64 R.L.fu) rfl) 3 (.int .i64 R.L.fa) rfl) 4 (.int .i64 R.L.size) rfl) 5 (.int .u64 R.L.fr) rfl) 6 (.int .u64 R.L.nx) rfl) 7 (.bool R.L.br) rfl) 8 (.slice B' R.es.length d') rfl) 9 (.int .i64 R.most) rfl)) ?_;
   (case hr => first | (go_simp; done) | (go_simp; rfl));
   intro FC n_;
   clear H c_5 z_5 c_4 z_4 c_v c_q c_l;
   have H := n_;
   clear n_;
   have c_5 := H.out.cell (g := g5) aJ;
   have z_5 := H.out.frozen (g := g5) aJ;
   have c_4 := H.out.cell (g := g4) mem1;
   have z_4 := H.out.frozen (g := g4) mem1;
   have c_v := H.out.cell (g := gv) mem2;
   have c_q := H.out.cell (g := gq) mem3;
   have c_l := H.out.cell (g := gl) bK)
 |((with_reducible refine aN (t := 34) (p := 5) rfl ?_);
   refine aZ (rs1 := (box g5 [.int .i64 0] 34 :: box g4 [.slice A' R.L.l.length c', .bool R.L.dn, .int .i64 R.L.fu, .int .i64 R.L.fa, .int .i64 R.L.size, .int .u64 R.L.fr, .int .u64 R.L.nx, .bool R.L.br, .slice B' R.es.length d', .int .i64 R.most] 33 :: box gv [.pointer (some ⟨gl, 0, none⟩)] 98 :: box gq [.slice A Q.L.l.length c, .bool Q.L.dn, .int .i64 Q.L.fu, .int .i64 Q.L.fa, .int .i64 Q.L.size, .int .u64 Q.L.fr, .int .u64 Q.L.nx, .bool Q.L.br, .slice B Q.es.length d, .int .i64 Q.most] 33 :: box gl [.slice A' R.L.l.length c', .bool R.L.dn, .int .i64 R.L.fu, .int .i64 R.L.fa, .int .i64 R.L.size, .int .u64 R.L.fr, .int .u64 R.L.nx, .bool R.L.br, .slice B' R.es.length d', .int .i64 R.most] 101 :: row k67 67 (.slice A' (R.L.l).length c') R.L.l :: row k41 41 (.slice B' (R.es).length d') R.es :: rs')) rfl (t := 34) (p := 5) rfl rfl ?hr (H1 := (Sep.set0 H.out 0 (.int .i64 0) rfl)) ?_;
   (case hr => first | (go_simp; done) | (go_simp; rfl));
   intro MH n_;
   clear H c_5 z_5 c_4 z_4 c_v c_q c_l;
   have H := n_;
   clear n_;
   have c_5 := H.out.cell (g := g5) aJ;
   have z_5 := H.out.frozen (g := g5) aJ;
   have c_4 := H.out.cell (g := g4) mem1;
   have z_4 := H.out.frozen (g := g4) mem1;
   have c_v := H.out.cell (g := gv) mem2;
   have c_q := H.out.cell (g := gq) mem3;
   have c_l := H.out.cell (g := gl) bK)
 |fail)
    refine leaves_cons (f := 101) (args := #[.pointer (some ⟨gv, 0, none⟩), .pointer (some ⟨g4, 0, none⟩), .pointer (some ⟨g5, 0, none⟩)]) (by simp) (by simp [go_sem]) ?_
    refine (TI gv g4 g5 _).mono ?_
    rintro e u' w'' ⟨rfl, rfl, rfl⟩
    clear c_5
    have c_5 := H.out.cell (g := g5) aJ
    (try simp only [Leaves, settle])
    exact ⟨_, qG (fn := Tryz.f52) rfl _ _ g4 33 _ _ _ g5 _ rfl (H.out.jK (g := g4) mem1) Tryz.underlying33 rfl info33 rfl (E8 c_5), A', c', B', d', rfl, ⟨(Sep.dV (Sep.drop1 (Sep.drop2 (Sep.gK (Sep.jO H.out)))))⟩⟩
   ·
    go_wp2_with fail
    refine leaves_cons (f := 101) (args := #[.pointer (some ⟨gv, 0, none⟩), .pointer (some ⟨g4, 0, none⟩), .pointer (some ⟨g5, 0, none⟩)]) (by simp) (by simp [go_sem]) ?_
    have H8 : aA (Sep b _ (box g5 [.int .i64 0] 34 :: box g4 [.slice none 0 0, .bool false, .int .i64 0, .int .i64 0, .int .i64 0, .int .u64 0, .int .u64 0, .bool false, .slice none 0 0, .int .i64 0] 33 :: box gv [.pointer (some ⟨gl, 0, none⟩)] 98 :: box gl [.slice A' R.L.l.length c', .bool R.L.dn, .int .i64 R.L.fu, .int .i64 R.L.fa, .int .i64 R.L.size, .int .u64 R.L.fr, .int .u64 R.L.nx, .bool R.L.br, .slice B' R.es.length d', .int .i64 R.most] 101 :: box gq [.slice A Q.L.l.length c, .bool Q.L.dn, .int .i64 Q.L.fu, .int .i64 Q.L.fa, .int .i64 Q.L.size, .int .u64 Q.L.fr, .int .u64 Q.L.nx, .bool Q.L.br, .slice B Q.es.length d, .int .i64 Q.most] 33 :: row k67 67 (.slice A' (R.L.l).length c') R.L.l :: row k41 41 (.slice B' (R.es).length d') R.es :: rs')) := ⟨(Sep.pU (Sep.pU (Sep.pU (Sep.pU (Sep.oV (Sep.pU (Sep.pU H.out)))))))⟩
    refine (vK gv g4 g5 gl _ A' c' B' d' R n _ H8).mono ?_
    rintro e u' w'' ⟨rfl, rfl, H9⟩
    clear H8 H c_5 z_5 c_4 z_4 c_v c_q c_l
    have H := H9
    have c_5 := H.out.cell (g := g5) aJ
    (try simp only [Leaves, settle])
    exact ⟨_, qG (fn := Tryz.f52) rfl _ _ g4 33 _ _ _ g5 _ rfl (H.out.jK (g := g4) mem1) Tryz.underlying33 rfl info33 rfl (E8 c_5), A', c', B', d', rfl, ⟨(Sep.dV (Sep.drop1 (Sep.drop2 (Sep.gK (Sep.jO H.out)))))⟩⟩
  ·
   obtain ⟨hR, hn6, hrs⟩ : R = Q ∧ n = 6 ∧ rs' = rs := by
    rcases HDO.out with h | h | h
    ·exact absurd HOK.out h.1
    ·exact ⟨h.2.2.1, h.2.2.2.1, h.2.2.2.2⟩
    ·rw [h.2.1] at hbr; cases hbr
   subst hR hn6 hrs
   go_wp2_with fail
   refine (vJ 6 _).mono ?_
   rintro e w_ ⟨rfl, rfl⟩
   try go_wp2_with fail
   refine leaves_cons (f := 101) (args := #[.pointer (some ⟨gv, 0, none⟩), .pointer (some ⟨g4, 0, none⟩), .pointer (some ⟨g5, 0, none⟩)]) (by simp) (by simp [go_sem]) ?_
   have H8 : aA (Sep b _ (box g5 [.int .i64 0] 34 :: box g4 [.slice none 0 0, .bool false, .int .i64 0, .int .i64 0, .int .i64 0, .int .u64 0, .int .u64 0, .bool false, .slice none 0 0, .int .i64 0] 33 :: box gv [.pointer (some ⟨gl, 0, none⟩)] 98 :: box gl [.slice Af R.L.l.length cf, .bool R.L.dn, .int .i64 R.L.fu, .int .i64 R.L.fa, .int .i64 R.L.size, .int .u64 R.L.fr, .int .u64 R.L.nx, .bool R.L.br, .slice Ae R.es.length ce, .int .i64 R.most] 101 :: row k67 67 (.slice Af (R.L.l).length cf) R.L.l :: row k41 41 (.slice Ae (R.es).length ce) R.es :: box gq [.slice A R.L.l.length c, .bool R.L.dn, .int .i64 R.L.fu, .int .i64 R.L.fa, .int .i64 R.L.size, .int .u64 R.L.fr, .int .u64 R.L.nx, .bool R.L.br, .slice B R.es.length d, .int .i64 R.most] 33 :: rs')) := ⟨(Sep.pU (Sep.pU (Sep.gI (Sep.gI (Sep.iQ (Sep.iQ (Sep.pU H.out)))))))⟩
   refine (vK gv g4 g5 gl _ Af cf Ae ce R 6 _ H8).mono ?_
   rintro e u' w'' ⟨rfl, rfl, H9⟩
   clear H8 H c_v c_l c_5 z_5 c_4 z_4 c_q
   have H := H9
   have c_5 := H.out.cell (g := g5) aJ
   (try simp only [Leaves, settle])
   exact ⟨_, qG (fn := Tryz.f52) rfl _ _ g4 33 _ _ _ g5 _ rfl (H.out.jK (g := g4) mem1) Tryz.underlying33 rfl info33 rfl (E8 c_5), Af, cf, Ae, ce, rfl, ⟨(Sep.dV (Sep.drop1 (Sep.drop2 (Sep.gK (Sep.xA H.out)))))⟩⟩
 ·
  obtain ⟨hR, hn6, hrs⟩ : R = Qz ∧ n = 6 ∧ rs' = rs := by
   rcases HDO.out with h | h | h
   ·exact h.2
   ·exact absurd h.1 hok
   ·exact absurd h.1 hok
  subst hR hn6 hrs
  refine ((bJ.calls (Q.es.length + 3) A c Q.L.l Q.L.dn Q.L.fu Q.L.fa Q.L.size Q.L.fr Q.L.nx Q.L.br B d Q.es Q.most 6 _ (H.out.came HRp.out) HCp.out (H.out.came HRe.out) HCe.out (by have h := I7 Q HF0.out HEL.out; rw [if_neg hok] at h; exact h)).mono ?_)
  rintro e DU ⟨rfl, hb_⟩
  have n_ : aA (Sep b DU (box g5 [.int .i64 0] 34 :: box g4 [.slice none 0 0, .bool false, .int .i64 0, .int .i64 0, .int .i64 0, .int .u64 0, .int .u64 0, .bool false, .slice none 0 0, .int .i64 0] 33 :: box gq [.slice A Q.L.l.length c, .bool Q.L.dn, .int .i64 Q.L.fu, .int .i64 Q.L.fa, .int .i64 Q.L.size, .int .u64 Q.L.fr, .int .u64 Q.L.nx, .bool Q.L.br, .slice B Q.es.length d, .int .i64 Q.most] 33 :: rs')) := ⟨H.out.step hb_⟩
  clear H c_5 c_4 c_q
  have H := n_
  clear n_
  have c_5 := H.out.cell (g := g5) aJ
  have c_4 := H.out.cell (g := g4) mem1
  have c_q := H.out.cell (g := gq) mem2
  clear hb_
  clear c_5 c_4 c_q
  have c_5 := H.out.cell (g := g5) aJ
  have z_5 := H.out.frozen (g := g5) aJ
  have c_4 := H.out.cell (g := g4) mem1
  have z_4 := H.out.frozen (g := g4) mem1
  have c_q := H.out.cell (g := gq) mem2
  go_wp2_with (first
 |((with_reducible refine aN (t := 33) (p := 4) rfl ?_);
   refine aZ (rs1 := (box g5 [.int .i64 0] 34 :: box g4 [.slice none 0 0, .bool false, .int .i64 0, .int .i64 0, .int .i64 0, .int .u64 0, .int .u64 0, .bool false, .slice none 0 0, .int .i64 0] 33 :: box gq [.slice A Q.L.l.length c, .bool Q.L.dn, .int .i64 Q.L.fu, .int .i64 Q.L.fa, .int .i64 Q.L.size, .int .u64 Q.L.fr, .int .u64 Q.L.nx, .bool Q.L.br, .slice B Q.es.length d, .int .i64 Q.most] 33 :: rs')) rfl (t := 33) (p := 4) rfl rfl ?hr (H1 := (Sep.set1 (Sep.set1 (Sep.set1 (Sep.set1 (Sep.set1 (Sep.set1 (Sep.set1 (Sep.set1 (Sep.set1 (Sep.set1 H.out 0 (.slice none 0 0) rfl) 1 (.bool false) rfl) 2 (.int .i64 0) rfl) 3 (.int .i64 0) rfl) 4 (.int .i64 0) rfl) 5 (.int .u64 0) rfl) 6 (.int .u64 0) rfl) 7 (.bool false) rfl) 8 (.slice none 0 0) rfl) 9 (.int .i64 0) rfl)) ?_;
   (case hr => first | (go_simp; done) | (go_simp; rfl));
   intro KI n_;
   clear H c_5 z_5 c_4 z_4 c_q;
   have H := n_;
   clear n_;
   have c_5 := H.out.cell (g := g5) aJ;
   have z_5 := H.out.frozen (g := g5) aJ;
   have c_4 := H.out.cell (g := g4) mem1;
   have z_4 := H.out.frozen (g := g4) mem1;
   have c_q := H.out.cell (g := gq) mem2)
 |((with_reducible refine aN (t := 34) (p := 5) rfl ?_);
   refine aZ (rs1 := (box g5 [.int .i64 6] 34 :: box g4 [.slice none 0 0, .bool false, .int .i64 0, .int .i64 0, .int .i64 0, .int .u64 0, .int .u64 0, .bool false, .slice none 0 0, .int .i64 0] 33 :: box gq [.slice A Q.L.l.length c, .bool Q.L.dn, .int .i64 Q.L.fu, .int .i64 Q.L.fa, .int .i64 Q.L.size, .int .u64 Q.L.fr, .int .u64 Q.L.nx, .bool Q.L.br, .slice B Q.es.length d, .int .i64 Q.most] 33 :: rs')) rfl (t := 34) (p := 5) rfl rfl ?hr (H1 := (Sep.set0 H.out 0 (.int .i64 6) rfl)) ?_;
   (case hr => first | (go_simp; done) | (go_simp; rfl));
   intro U2 n_;
   clear H c_5 z_5 c_4 z_4 c_q;
   have H := n_;
   clear n_;
   have c_5 := H.out.cell (g := g5) aJ;
   have z_5 := H.out.frozen (g := g5) aJ;
   have c_4 := H.out.cell (g := g4) mem1;
   have z_4 := H.out.frozen (g := g4) mem1;
   have c_q := H.out.cell (g := gq) mem2)
 |fail)
  have H2 := Sep.eG (d := k67) (e := 67) (Sep.eG (d := k41) (e := 41) (Sep.dV (Sep.drop1 (Sep.drop2 H.out))))
  clear c_5
  have c_5 := H.out.cell (g := g5) aJ
  (try simp only [Leaves, settle])
  exact ⟨_, qG (fn := Tryz.f52) rfl _ _ g4 33 _ _ _ g5 _ rfl (H.out.jK (g := g4) mem1) Tryz.underlying33 rfl info33 rfl (E8 c_5), none, 0, none, 0, rfl, ⟨H2⟩⟩
end Go.Proofs.U
