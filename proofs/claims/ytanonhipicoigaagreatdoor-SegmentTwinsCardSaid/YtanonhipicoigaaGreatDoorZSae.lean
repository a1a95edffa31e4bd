import Derived.Test.YtanonhipicoigaaGreatDoorZSad
import Derived.TacticsIn
import Derived.TacticsInMore
import Derived.BigRegion
import Derived.Recover
import Derived.Defers
import Derived.Laws.Pointers
import Derived.Deep.DeepCutAuto
import Derived.RangeFuncSeq
import Derived.OwnWalkIn
import Derived.RegionIn
import Derived.LoopNIn
import Derived.LoopIn
import Derived.Deep.Slices
import Derived.LoopN
namespace Go.Proofs.YtanonhipicoigaaGreatDoor.U
open Go.RowKit Go.Proofs.YtanonhipicoigaaGreatDoorW.PrintWords Go.Proofs.YtanonhipicoigaaGreatDoorW.PrintLast Go.Proofs.YtanonhipicoigaaGreatDoorW.PrintMore Go.Proofs.YtanonhipicoigaaGreatDoor.Sp Go.Proofs.YtanonhipicoigaaGreatDoor.SegP
set_option linter.unusedVariables false
set_option linter.unusedSimpArgs false
/-- A row of flat elements, handed back. -/
theorem sep_own {b W : World} {rs : List Res} {α : Type} {d : Kd α} {e : TypeId} {v : Value} {l : List α} (H : Sep b W rs) (hm : row d e v l ∈ rs)
    (hd : ∀ {base : Nat} {ok1 ok2 : Nat → Prop} {x : α} {cs : List Value}, d.M W 0 ok1 x cs → d.M W base ok2 x cs) : Kd.R d e W b.heap.size (fun _ => True) v l := by
  have hb := H.base _ hm
  obtain ⟨h0, inner, ho, hr⟩ := H.row_ hm
  refine ⟨fun _ _ => trivial, inner, ?_, hr.imp_ (fun _ _ hp => hd hp)⟩
  obtain ⟨h1, h2⟩ := ho
  rcases h2 with ⟨rfl, h2⟩ | ⟨g, cap, cur, rfl, hg, h3⟩
  · exact ⟨h1, .inl ⟨rfl, h2⟩⟩
  · exact ⟨h1, .inr ⟨g, cap, cur, rfl, hb g rfl, h3⟩⟩
theorem k62_flat2 {W : World} {base : Nat} {ok1 ok2 : Nat → Prop} {x : S62} {cs : List Value} (h : k62.M W 0 ok1 x cs) : k62.M W base ok2 x cs := by
  obtain rfl := k62_openM h
  exact k62_mkM _ _ _ _
theorem k62_flat : Flat k62 := k62_flat2
/-- A place: a file and its number. -/
def k139 : Kd Pl := Kd.iso (Kd.pair Kd.string (Kd.pair Kd.string (Kd.pair (Kd.int .i64) (Kd.int .u64)))) (fun p : Pl => (p.1.f0, p.1.f1, p.1.f2, (p.2 : Int)))
theorem k139_open {w : World} {x : Pl} {cs : List Value} (h : k139.K w x cs) : cs = [.string x.1.f0, .string x.1.f1, .int .i64 x.1.f2, .int .u64 (x.2 : Int)] := by
  obtain ⟨_, _, rfl, rfl, ⟨_, _, rfl, rfl, ⟨_, _, rfl, rfl, rfl⟩⟩⟩ := h
  exact rfl
theorem k139_openM {w : World} {base : Nat} {ok : Nat → Prop} {x : Pl} {cs : List Value} (h : k139.M w base ok x cs) : cs = [.string x.1.f0, .string x.1.f1, .int .i64 x.1.f2, .int .u64 (x.2 : Int)] := by
  obtain ⟨_, _, rfl, rfl, ⟨_, _, rfl, rfl, ⟨_, _, rfl, rfl, rfl⟩⟩⟩ := h
  exact rfl
theorem k139_mkM (w : World) (base : Nat) (ok : Nat → Prop) (x : Pl) : k139.M w base ok x [.string x.1.f0, .string x.1.f1, .int .i64 x.1.f2, .int .u64 (x.2 : Int)] := ⟨[.string x.1.f0], [.string x.1.f1, .int .i64 x.1.f2, .int .u64 (x.2 : Int)], rfl, rfl, ⟨[.string x.1.f1], [.int .i64 x.1.f2, .int .u64 (x.2 : Int)], rfl, rfl, ⟨[.int .i64 x.1.f2], [.int .u64 (x.2 : Int)], rfl, rfl, rfl⟩⟩⟩
theorem k139_flat2 {W : World} {base : Nat} {ok1 ok2 : Nat → Prop} {x : Pl} {cs : List Value} (h : k139.M W 0 ok1 x cs) : k139.M W base ok2 x cs := by
  obtain rfl := k139_openM h
  exact k139_mkM _ _ _ _
theorem k139_flat : Flat k139 := k139_flat2
def z139 : Pl := (z67, 0)
theorem at139 {w : World} {ad : Addr} {n i : Nat} {l : List Pl} {x : Pl} (h : Kd.C k139 w (some ad) n l) (hx : l[i]? = some x) :
    w.cell? (ad.add (i * 4)) = some (.string x.1.f0) ∧ w.cell? ⟨(ad.add (i * 4)).block, (ad.add (i * 4)).off + 1, none⟩ = some (.string x.1.f1) ∧ w.cell? ⟨(ad.add (i * 4)).block, (ad.add (i * 4)).off + 2, none⟩ = some (.int .i64 x.1.f2) ∧ w.cell? ⟨(ad.add (i * 4)).block, (ad.add (i * 4)).off + 3, none⟩ = some (.int .u64 (x.2 : Int)) := by
  have hi := (List.getElem?_eq_some_iff.1 hx).1
  obtain ⟨ad2, c, e, _, hK, hc0⟩ := Kd.C_get h z139 (i : Int) (by omega) (by have := h.1; omega)
  injection e with e
  subst e
  have hg : l.getD i z139 = x := by simp [List.getD, hx]
  simp only [Int.toNat_natCast] at hK hc0
  rw [hg] at hK
  have hc : ∀ j u, c[j]? = some u → w.cell? (ad.add (i * 4 + j)) = some u := hc0
  obtain rfl := k139_open hK
  exact ⟨hc 0 _ rfl, by rw [← add_field _ _ 1 (by omega)]; exact hc 1 _ rfl, by rw [← add_field _ _ 2 (by omega)]; exact hc 2 _ rfl, by rw [← add_field _ _ 3 (by omega)]; exact hc 3 _ rfl⟩
theorem row139 {w : World} {A : Option Addr} {n : Nat} {l : List Pl} (h : Kd.C k139 w A n l) (hn : 0 < n) : ∃ ad, A = some ad := by
  obtain ⟨ad2, c, e, _⟩ := Kd.C_get h z139 0 (by omega) (by omega)
  exact ⟨ad2, e⟩
theorem info139 : (Tryz.prog.info? 139).map (fun i => (i.zero, i.size, i.bytes)) = some (some (.agg #[(.string ⟨#[]⟩), (.string ⟨#[]⟩), (.int .i64 0), (.int .u64 0)]), 4, 48) := by kernel_rfl
theorem pl_succ (N : ByteArray → Option Nat) {l : List S67} {i : Nat} {x : S67} (h : l[i]? = some x) : (l.take (i + 1)).filterMap (fun f => (N f.f0).map fun n => (f, n)) = (l.take i).filterMap (fun f => (N f.f0).map fun n => (f, n)) ++ ((N x.f0).map fun n => (x, n)).toList := by
  have e1 : l.take (i + 1) = l.take i ++ [x] := by rw [List.take_add_one, h]; rfl
  rw [e1, List.filterMap_append, List.filterMap_cons, List.filterMap_nil]
  cases N x.f0 <;> rfl
theorem places_succ {l : List S67} {i : Nat} {x : S67} (h : l[i]? = some x) : placesF (l.take (i + 1)) = placesF (l.take i) ++ ((numOf x.f0).map fun n => (x, n)).toList := pl_succ numOf h
theorem places_len (l : List S67) : (placesF l).length ≤ l.length := List.length_filterMap_le _ _
set_option maxHeartbeats 4000000 in
set_option maxRecDepth 100000 in
theorem places_any (A : Option Addr) (c : Nat) (l : List S67) (dn : Bool) (fu fa : Int) (w : World) (hr : Kd.C k67 w A l.length l) (hc : l.length ≤ c) (hlen : l.length ≤ 64) (hnm : ∀ x ∈ l, x.f0.size ≤ 65536) (hG : Gl w) :
  Calls Tryz.prog 79 #[.agg #[.slice A l.length c, .bool dn, .int .i64 fu, .int .i64 fa]] w fun e w' => ∃ v_ : Value, e = .returned v_ ∧ Kd.R k139 139 w' w.heap.size (fun _ => True) v_ (placesF l) ∧ Below w.heap.size w w' := by
 have HRp := Aside0.mk hr
 have HCp := Aside0.mk hc
 have HNM := Aside0.mk hnm
 have HG := Aside0.mk hG
 clear hr hc hnm hG
 have H := Aside0.mk (Sep.start w)
 go_enter Tryz.func79, Tryz.ntmps79
 go_wp2_with (first
 | ((with_reducible refine gate_dst (N := 1) rfl ?_);
    refine new_box rfl H (cs := [.slice A l.length c, .bool dn, .int .i64 fu, .int .i64 fa]) (t := 27) ?hr ?_;
    (case hr => first | (go_simp; done) | (go_simp; rfl));
    intro gd wd1 n_;
    simp only [Act.put, List.setIfInBounds_toArray, List.set_cons_zero, List.set_cons_succ];
    clear H;
    have H := n_;
    clear n_;
    have c_d := H.out.cell (g := gd) mem0)
 | fail)
 go_loopw [3, 11] (fun v3 v11 wr => ∃ (i : Nat) (o : List Pl) (Ao : Option Addr) (co : Nat), v3 = .slice Ao (o).length co ∧ v11 = .int .i64 (i : Int) ∧ i ≤ l.length ∧ Aside0 (o = placesF (l.take i)) ∧ Aside0 (Sep w wr [box gd [.slice A l.length c, .bool dn, .int .i64 fu, .int .i64 fa] 27, row k139 139 (.slice Ao (o).length co) o]))
  (fun _ v11 _ => l.length - (intOf v11).toNat)
 case atStart => exact ⟨0, [], none, 0, rfl, rfl, by omega, ⟨rfl⟩, ⟨(Sep.push_nil H.out).perm (List.Perm.swap _ _ _)⟩⟩
 case round =>
  clear H c_d
  obtain ⟨i, o, Ao, co, rfl, rfl, hi, HO, H⟩ := hrel
  have c_d := H.out.cell (g := gd) mem0
  by_cases hil : i < l.length
  ·
   obtain ⟨x, hx⟩ : ∃ x, l[i]? = some x := ⟨_, List.getElem?_eq_getElem hil⟩
   obtain ⟨ad, e1⟩ : ∃ ad, A = some ad := (at_T67 HRp.out (i : Int) (by omega) (by omega)).imp fun _ h => h.1
   subst e1
   obtain ⟨h0, h1, h2⟩ := at67 (H.out.came HRp.out) hx
   have HX := Aside0.mk hx
   have HXM := Aside0.mk (List.mem_of_getElem? hx)
   clear hx
   have hi0 : (0 : Int) ≤ (i : Int) := by omega
   have hi1 : (i : Int) < (l.length : Int) := by omega
   have HOL : Aside0 (o.length ≤ 64) := ⟨by rw [HO.out]; have h := places_len (l.take i); rw [List.length_take] at h; omega⟩
   go_wp2_with (first
 | ((with_reducible refine gate_dst (N := 5) rfl ?_);
    refine new_box rfl H (cs := [.string ⟨#[]⟩, .string ⟨#[]⟩, .int .i64 0]) (t := 67) ?hr ?_;
    (case hr => first | (go_simp; done) | (go_simp; rfl));
    intro gf wd2 n_;
    simp only [Act.put, List.setIfInBounds_toArray, List.set_cons_zero, List.set_cons_succ];
    clear H c_d;
    have H := n_;
    clear n_;
    have c_f := H.out.cell (g := gf) mem0;
    have z_f := H.out.frozen (g := gf) mem0;
    have c_d := H.out.cell (g := gd) mem1)
 | ((with_reducible refine gate_store (t := 67) (p := 5) rfl ?_);
    refine put_box (rs1 := [box gf [.string x.f0, .string x.f1, .int .i64 x.f2] 67, box gd [.slice (some ad) l.length c, .bool dn, .int .i64 fu, .int .i64 fa] 27, row k139 139 (.slice Ao (o).length co) o]) rfl (t := 67) (p := 5) rfl rfl ?hr (H1 := (Sep.set0 (Sep.set0 (Sep.set0 H.out 0 (.string x.f0) rfl) 1 (.string x.f1) rfl) 2 (.int .i64 x.f2) rfl)) ?_;
    (case hr => first | (go_simp; done) | (go_simp; rfl));
    intro wd3 n_;
    clear H c_f z_f c_d;
    have H := n_;
    clear n_;
    have c_f := H.out.cell (g := gf) mem0;
    have z_f := H.out.frozen (g := gf) mem0;
    have c_d := H.out.cell (g := gd) mem1;
    clear h0 h1 h2)
 | fail)
   refine (number_any x.f0 _ (HNM.out x HXM.out) (HG.out.below H.out.below)).mono ?_
   rintro e wd4 ⟨v, rfl, hv, hb_⟩
   have n_ : Aside0 (Sep w wd4 [box gf [.string x.f0, .string x.f1, .int .i64 x.f2] 67, box gd [.slice (some ad) l.length c, .bool dn, .int .i64 fu, .int .i64 fa] 27, row k139 139 (.slice Ao (o).length co) o]) := ⟨H.out.step hb_⟩
   clear H c_f z_f c_d
   have H := n_
   clear n_
   have c_f := H.out.cell (g := gf) mem0
   have z_f := H.out.frozen (g := gf) mem0
   have c_d := H.out.cell (g := gd) mem1
   clear hb_
   cases hno : numOf x.f0
   ·
    have HNO := Aside0.mk hno
    clear hno hv
    rw [show (none : Option Nat).isSome = false from rfl]
    go_wp2_with fail
    refine ⟨⟨i + 1, o, Ao, co, rfl, by congr 1, by omega, ⟨?_⟩, ⟨?_⟩⟩, by simp [intOf]; omega⟩
    ·
     rw [places_succ HX.out, HNO.out, HO.out]
     simp
    ·
     exact (Sep.drop0 H.out)
   ·
    rename_i k
    obtain rfl := hv k hno
    have HNO := Aside0.mk hno
    clear hno hv
    rw [show (some k : Option Nat).isSome = true from rfl]
    go_wp2_with (first
 | ((with_reducible refine gate_builtin (b := .append) (xs := #[.tmp 22, .tmp 26]) rfl ?_); at_builtin;
    refine app_row2 k139 k139_flat rfl (.tmp 22) (.tmp 26) 127 139 (.agg #[(.string ⟨#[]⟩), (.string ⟨#[]⟩), (.int .i64 0), (.int .u64 0)]) 48 rfl Tryz.underlying127 info139 rfl (by decide) (by omega) (.slice Ao (o).length co) _ (((x, k) : Pl)) [.string x.f0, .string x.f1, .int .i64 x.f2, .int .u64 (k : Int)] ?hs ?hx ?hp H ?hl ?_;
    (case hs => first | rfl | (go_simp; done) | (simp; rfl));
    (case hx => first | (go_simp; done) | (go_simp; rfl));
    (case hp => exact k139_mkM _ _ _ (x, k));
    (case hl => (have := HOL.out; (try simp only [List.length_append, List.length_cons, List.length_nil]); omega));
    intro Ao2 co2 wd5 n_;
    clear H c_f z_f c_d;
    have H := n_;
    clear n_;
    have c_f := H.out.cell (g := gf) mem0;
    have z_f := H.out.frozen (g := gf) mem0;
    have c_d := H.out.cell (g := gd) mem1)
 | fail)
    refine ⟨⟨i + 1, o ++ [(x, k)], Ao2, co2, by simp, by congr 1, by omega, ⟨?_⟩, ⟨?_⟩⟩, by simp [intOf]; omega⟩
    ·
     rw [places_succ HX.out, HNO.out, HO.out]
     rfl
    ·
     exact (Sep.drop0 H.out)
  ·
   go_wp2_with fail
   go_ret
   have e1 : placesF l = o := by rw [HO.out, List.take_of_length_le (by omega)]
   rw [e1]
   exact ⟨_, rfl, sep_own H.out mem1 k139_flat2, H.out.below⟩
end Go.Proofs.YtanonhipicoigaaGreatDoor.U
set_option linter.unusedVariables false
set_option linter.unusedSimpArgs false
namespace Go.Proofs.YtanonhipicoigaaGreatDoor.Sp
open Go.RowKit Go.Proofs.YtanonhipicoigaaGreatDoorW.PrintWords Go.Proofs.YtanonhipicoigaaGreatDoorW.PrintLast Go.Proofs.YtanonhipicoigaaGreatDoorW.PrintMore
section
variable {F : Fence} {n : Nat} {P : Program} {ops : Array Oper} {rest : List Oper} {o : Oper} {a : Act} {Q : Exit → Act → World → Prop} {b W : World} {rs : List Res}
theorem event_runIn {W W1 : World} {v : Value} (hgd : o.guard = none) (hab : o.about P W a.eval = none) (hdf : ∀ c, o.op ≠ .defer c) (hrun : (execOp a.eval o).run P W = .ok (.value v) W1)
    (h : wpListIn F n P ops Q rest (a.put o.dst v) W1) : wpListIn F n P ops Q (o :: rest) a W := by
  refine wpListIn_plain hgd fun K hK => ?_
  refine ⟨fun f hf => (by rw [hab] at hf; cases hf), ?_⟩
  rw [Oper.semAt_eq _ _ _ hdf, hrun]
  exact hK _ _ h
theorem store_runIn {W W1 : World} (hgd : o.guard = none) (hab : o.about P W a.eval = none) (hdf : ∀ c, o.op ≠ .defer c) (hN : o.dst = none) (hrun : (execOp a.eval o).run P W = .ok .skip W1)
    (h : wpListIn F n P ops Q rest a W1) : wpListIn F n P ops Q (o :: rest) a W := by
  refine wpListIn_plain hgd fun K hK => ?_
  refine ⟨fun f hf => (by rw [hab] at hf; cases hf), ?_⟩
  rw [Oper.semAt_eq _ _ _ hdf, hrun]
  show K (a.put o.dst undef) W1
  rw [hN]
  exact hK _ _ h
theorem gate_dstIn {N : Tmp} (_hd : o.dst = some N) (h : wpListIn F n P ops Q (o :: rest) a W) : wpListIn F n P ops Q (o :: rest) a W := h
theorem gate_storeIn {t : TypeId} {q : Tmp} {v : Operand} (_ho : o.op = .store t (.tmp q) v) (h : wpListIn F n P ops Q (o :: rest) a W) : wpListIn F n P ops Q (o :: rest) a W := h
theorem gate_builtinIn {bf : Builtin} {xs : Array Operand} {ts : Array TypeId} (_ho : o.op = .call { callee := .builtin bf, args := xs, argTypes := ts }) (h : wpListIn F n P ops Q (o :: rest) a W) : wpListIn F n P ops Q (o :: rest) a W := h
theorem new_boxIn (hgd : o.guard = none) (hab : o.about P W a.eval = none) (hdf : ∀ c, o.op ≠ .defer c) (H : Aside0 (Sep b W rs)) {cs : List Value} {t : TypeId}
    (hrun : (execOp a.eval o).run P W = .ok (.value (.pointer (some ⟨W.heap.size, 0, none⟩))) (W.alloc (.cells cs.toArray t (0, 0))))
    (h : ∀ g W', Aside0 (Sep b W' (box g cs t :: rs)) → wpListIn F n P ops Q rest (a.put o.dst (.pointer (some ⟨g, 0, none⟩))) W') : wpListIn F n P ops Q (o :: rest) a W :=
  event_runIn hgd hab hdf hrun (h _ _ ⟨H.out.alloc cs t⟩)
theorem put_boxIn {W1 : World} {rs1 : List Res} (hgd : o.guard = none) {t : TypeId} {q : Tmp} {v : Operand} (ho : o.op = .store t (.tmp q) v) (hab : o.about P W a.eval = none) (hN : o.dst = none) (hrun : (execOp a.eval o).run P W = .ok .skip W1) (H1 : Sep b W1 rs1)
    (h : ∀ W', Aside0 (Sep b W' rs1) → wpListIn F n P ops Q rest a W') : wpListIn F n P ops Q (o :: rest) a W :=
  store_runIn hgd hab (fun c e => by rw [ho] at e; cases e) hN hrun (h _ ⟨H1⟩)
theorem exec_append {s x : Operand} {t : TypeId} (ho : o.op = .call { callee := .builtin .append, args := #[s, x], argTypes := #[t, t] }) :
    ∃ S : Sem Value, (execOp a.eval o).run P W = (S.run P W).andThen fun v w => .ok (.value v) w := by
  refine ⟨?S, ?_⟩
  rotate_left
  · simp [execOp, ho, resolve, invoke, builtin]
    rfl
theorem app_rowIn {α : Type} (d : Kd α) (hd : Flat d) (pre post : List Res) (hgd : o.guard = none) (s x : Operand) (t e : TypeId) (z : Value) (bytes : Nat)
    (ho : o.op = .call { callee := .builtin .append, args := #[s, x], argTypes := #[t, t] })
    (ht : P.underlying t = some (.slice e)) (hinfo : (P.info? e).map (fun i => (i.zero, i.size, i.bytes)) = some (some z, d.sz, bytes)) (hz : z.cells.size = d.sz) (hs0 : 0 < d.sz) (hb0 : 0 < bytes)
    (v : Value) (xs : List α) (p : α) (cs : List Value) (hs : a.eval s = v) (hx : a.eval x = .slice (some ⟨W.heap.size, 0, none⟩) 1 1) (hp : d.M W 0 (fun _ => False) p cs)
    (hab : o.about P (W.alloc (.cells cs.toArray e)) a.eval = none)
    (H : Aside0 (Sep b W (pre ++ row d e v xs :: post))) (hl : (xs.length + 1) * bytes ≤ 140737488355328)
    (h : ∀ A1 c1 W', Aside0 (Sep b W' (pre ++ row d e (.slice A1 (xs ++ [p]).length c1) (xs ++ [p]) :: post)) → wpListIn F n P ops Q rest (a.put o.dst (.slice A1 (xs ++ [p]).length c1)) W') :
    wpListIn F n P ops Q (o :: rest) a (W.alloc (.cells cs.toArray e)) := by
  have hpl := app_row (P := P) (ops := ops) (rest := []) (o := o) (a := a) (Q := fun ex a' w' => ex = Exit.normal ∧ ∃ A1 c1, a' = a.put o.dst (.slice A1 (xs ++ [p]).length c1) ∧ Aside0 (Sep b w' (pre ++ row d e (.slice A1 (xs ++ [p]).length c1) (xs ++ [p]) :: post)))
    d hd pre post hgd s x t e z bytes ho ht hinfo hz hs0 hb0 v xs p cs hs hx hp H hl (fun A1 c1 W' HS => ⟨rfl, A1, c1, rfl, HS⟩)
  obtain ⟨S, hS⟩ := exec_append (P := P) (a := a) (W := W.alloc (.cells cs.toArray e)) ho
  simp only [wpList, Region.wanted, hgd, if_true] at hpl
  rcases hpl with hpl | ⟨_, a1, w1, h1, _⟩
  · unfold Oper.wp at hpl
    rw [hS] at hpl
    cases hr : S.run P (W.alloc (.cells cs.toArray e)) with
    | ok u w1 =>
      rw [hr] at hpl hS
      obtain ⟨_, A1, c1, he, HS⟩ := (show (True ∧ ∃ A1 c1, a.put o.dst u = a.put o.dst (.slice A1 (xs ++ [p]).length c1) ∧ Aside0 (Sep b w1 (pre ++ row d e (.slice A1 (xs ++ [p]).length c1) (xs ++ [p]) :: post))) from hpl)
      refine event_runIn hgd hab (fun c e => by rw [ho] at e; cases e) hS ?_
      rw [he]
      exact h A1 c1 w1 HS
    | halt x w1 =>
      rw [hr] at hpl
      exfalso
      cases x <;> first | exact hpl.elim | exact absurd hpl.1 (by simp) | simp [Result.andThen, Oper.upon] at hpl
  · cases h1
end
theorem app_rowIn4 {F : Fence} {n : Nat} {P : Program} {ops : Array Oper} {rest : List Oper} {o : Oper} {a : Act} {Q : Exit → Act → World → Prop} {b W : World} {α : Type} {r0 r1 r2 r3 : Res} {post : List Res} (d : Kd α) (hd : Flat d) (hgd : o.guard = none) (s x : Operand) (t e : TypeId) (z : Value) (bytes : Nat)
    (ho : o.op = .call { callee := .builtin .append, args := #[s, x], argTypes := #[t, t] })
    (ht : P.underlying t = some (.slice e)) (hinfo : (P.info? e).map (fun i => (i.zero, i.size, i.bytes)) = some (some z, d.sz, bytes)) (hz : z.cells.size = d.sz) (hs0 : 0 < d.sz) (hb0 : 0 < bytes)
    (v : Value) (xs : List α) (p : α) (cs : List Value) (hs : a.eval s = v) (hx : a.eval x = .slice (some ⟨W.heap.size, 0, none⟩) 1 1) (hp : d.M W 0 (fun _ => False) p cs)
    (hab : o.about P (W.alloc (.cells cs.toArray e)) a.eval = none)
    (H : Aside0 (Sep b W (r0 :: r1 :: r2 :: r3 :: row d e v xs :: post))) (hl : (xs.length + 1) * bytes ≤ 140737488355328)
    (h : ∀ A1 c1 W', Aside0 (Sep b W' (r0 :: r1 :: r2 :: r3 :: row d e (.slice A1 (xs ++ [p]).length c1) (xs ++ [p]) :: post)) → wpListIn F n P ops Q rest (a.put o.dst (.slice A1 (xs ++ [p]).length c1)) W') :
    wpListIn F n P ops Q (o :: rest) a (W.alloc (.cells cs.toArray e)) := app_rowIn d hd [r0, r1, r2, r3] post hgd s x t e z bytes ho ht hinfo hz hs0 hb0 v xs p cs hs hx hp hab H hl h
end Go.Proofs.YtanonhipicoigaaGreatDoor.Sp
namespace Go.Proofs.YtanonhipicoigaaGreatDoor.U
open Go.RowKit Go.Proofs.YtanonhipicoigaaGreatDoorW.PrintWords Go.Proofs.YtanonhipicoigaaGreatDoorW.PrintLast Go.Proofs.YtanonhipicoigaaGreatDoorW.PrintMore Go.Proofs.YtanonhipicoigaaGreatDoor.Sp Go.Proofs.YtanonhipicoigaaGreatDoor.SegP
set_option linter.unusedVariables false
set_option linter.unusedSimpArgs false
/-- Things that a call hands back, beside what was there. -/
theorem sep_join {b w w' : World} {rs rs' : List Res} (H : Sep b w rs) (K : Sep w w' rs') : Sep b w' (rs' ++ rs) :=
  H.news K.below (fun r hr => ⟨K.all r hr, K.base r hr⟩) K.apart
/-- A log, as the program has it. -/
structure Lg where
  l : List S67
  dn : Bool
  fu : Int
  fa : Int
  size : Int
  fr : Int
  nx : Int
  br : Bool
def lgc (A : Option Addr) (c : Nat) (L : Lg) : List Value := [.slice A L.l.length c, .bool L.dn, .int .i64 L.fu, .int .i64 L.fa, .int .i64 L.size, .int .u64 L.fr, .int .u64 L.nx, .bool L.br]
abbrev rowF (A : Option Addr) (c : Nat) (l : List S67) : Res := row k67 67 (.slice A l.length c) l
abbrev DiskR := List S67 × Bool × Int × Int × Int
/-- A log behind a change of its disk. -/
def chg (L : Lg) (R : DiskR) : Lg := ⟨R.1, R.2.1, R.2.2.1, R.2.2.2.1, L.size, L.fr, L.nx, if R.2.2.2.2 = 0 then L.br else true⟩
/-- How a step ends: it goes on, or it panics with an error's number. -/
def Ends (n : Int) (e : Ending) : Prop := (n = 0 ∧ e = .returned (.tuple #[])) ∨ (n ≠ 0 ∧ e = .panicked [{ v := .iface 34 (.int .i64 n), recovered := false }])
set_option maxHeartbeats 4000000 in
theorem change_ok {b w : World} {rs : List Res} (gl : Nat) (A : Option Addr) (c : Nat) (L : Lg) (A1 : Option Addr) (c1 : Nat) (l1 : List S67) (d1 : Bool) (u1 a1 : Int) (H0 : Aside0 (Sep b w (box gl (lgc A c L) 134 :: rs))) :
    Calls Tryz.prog 72 #[.pointer (some ⟨gl, 0, none⟩), .agg #[.slice A1 l1.length c1, .bool d1, .int .i64 u1, .int .i64 a1], .int .i64 0] w fun e w' => e = .returned (.tuple #[]) ∧ Aside0 (Sep b w' (box gl (lgc A1 c1 (chg L (l1, d1, u1, a1, 0))) 134 :: rs)) := by
  have H : Aside0 (Sep b w (box gl [.slice A L.l.length c, .bool L.dn, .int .i64 L.fu, .int .i64 L.fa, .int .i64 L.size, .int .u64 L.fr, .int .u64 L.nx, .bool L.br] 134 :: rs)) := H0
  clear H0
  have c_l := H.out.cell (g := gl) mem0
  have z_l := H.out.frozen (g := gl) mem0
  go_enter Tryz.func72, Tryz.ntmps72
  go_wp2_with (first
 | ((with_reducible refine gate_dst (N := 4) rfl ?_);
    refine new_box rfl H (cs := [.slice A1 l1.length c1, .bool d1, .int .i64 u1, .int .i64 a1]) (t := 27) ?hr ?_;
    (case hr => first | (go_simp; done) | (go_simp; rfl));
    intro gd wd1 n_;
    simp only [Act.put, List.setIfInBounds_toArray, List.set_cons_zero, List.set_cons_succ];
    clear H c_l z_l;
    have H := n_;
    clear n_;
    have c_d := H.out.cell (g := gd) mem0;
    have z_d := H.out.frozen (g := gd) mem0;
    have c_l := H.out.cell (g := gl) mem1;
    have z_l := H.out.frozen (g := gl) mem1)
 | ((with_reducible refine gate_store (t := 27) (p := 10) rfl ?_);
    refine put_box (rs1 := (box gd [.slice A1 l1.length c1, .bool d1, .int .i64 u1, .int .i64 a1] 27 :: box gl [.slice A1 l1.length c1, .bool d1, .int .i64 u1, .int .i64 a1, .int .i64 L.size, .int .u64 L.fr, .int .u64 L.nx, .bool L.br] 134 :: rs)) rfl (t := 27) (p := 10) rfl rfl ?hr (H1 := (Sep.set1 (Sep.set1 (Sep.set1 (Sep.set1 H.out 0 (.slice A1 l1.length c1) rfl) 1 (.bool d1) rfl) 2 (.int .i64 u1) rfl) 3 (.int .i64 a1) rfl)) ?_;
    (case hr => first | (go_simp; done) | (go_simp; rfl));
    intro wd2 n_;
    clear H c_d z_d c_l z_l;
    have H := n_;
    clear n_;
    have c_d := H.out.cell (g := gd) mem0;
    have z_d := H.out.frozen (g := gd) mem0;
    have c_l := H.out.cell (g := gl) mem1;
    have z_l := H.out.frozen (g := gl) mem1)
 | fail)
  go_end0
  exact ⟨rfl, ⟨(Sep.drop0 H.out)⟩⟩
set_option maxHeartbeats 4000000 in
theorem change_no {b w : World} {rs : List Res} (gl : Nat) (A : Option Addr) (c : Nat) (L : Lg) (A1 : Option Addr) (c1 : Nat) (l1 : List S67) (d1 : Bool) (u1 a1 : Int) (n : Int) (hn : n ≠ 0) (H0 : Aside0 (Sep b w (box gl (lgc A c L) 134 :: rs))) :
    Calls Tryz.prog 72 #[.pointer (some ⟨gl, 0, none⟩), .agg #[.slice A1 l1.length c1, .bool d1, .int .i64 u1, .int .i64 a1], .int .i64 n] w fun e w' => e = .panicked [{ v := .iface 34 (.int .i64 n), recovered := false }] ∧ Aside0 (Sep b w' (box gl (lgc A1 c1 (chg L (l1, d1, u1, a1, n))) 134 :: rs)) := by
  have H : Aside0 (Sep b w (box gl [.slice A L.l.length c, .bool L.dn, .int .i64 L.fu, .int .i64 L.fa, .int .i64 L.size, .int .u64 L.fr, .int .u64 L.nx, .bool L.br] 134 :: rs)) := H0
  clear H0
  have c_l := H.out.cell (g := gl) mem0
  have z_l := H.out.frozen (g := gl) mem0
  go_enter Tryz.func72, Tryz.ntmps72
  go_wp2_with (first
 | ((with_reducible refine gate_dst (N := 4) rfl ?_);
    refine new_box rfl H (cs := [.slice A1 l1.length c1, .bool d1, .int .i64 u1, .int .i64 a1]) (t := 27) ?hr ?_;
    (case hr => first | (go_simp; done) | (go_simp; rfl));
    intro gd wd3 n_;
    simp only [Act.put, List.setIfInBounds_toArray, List.set_cons_zero, List.set_cons_succ];
    clear H c_l z_l;
    have H := n_;
    clear n_;
    have c_d := H.out.cell (g := gd) mem0;
    have z_d := H.out.frozen (g := gd) mem0;
    have c_l := H.out.cell (g := gl) mem1;
    have z_l := H.out.frozen (g := gl) mem1)
 | ((with_reducible refine gate_store (t := 27) (p := 10) rfl ?_);
    refine put_box (rs1 := (box gd [.slice A1 l1.length c1, .bool d1, .int .i64 u1, .int .i64 a1] 27 :: box gl [.slice A1 l1.length c1, .bool d1, .int .i64 u1, .int .i64 a1, .int .i64 L.size, .int .u64 L.fr, .int .u64 L.nx, .bool L.br] 134 :: rs)) rfl (t := 27) (p := 10) rfl rfl ?hr (H1 := (Sep.set1 (Sep.set1 (Sep.set1 (Sep.set1 H.out 0 (.slice A1 l1.length c1) rfl) 1 (.bool d1) rfl) 2 (.int .i64 u1) rfl) 3 (.int .i64 a1) rfl)) ?_;
    (case hr => first | (go_simp; done) | (go_simp; rfl));
    intro wd4 n_;
    clear H c_d z_d c_l z_l;
    have H := n_;
    clear n_;
    have c_d := H.out.cell (g := gd) mem0;
    have z_d := H.out.frozen (g := gd) mem0;
    have c_l := H.out.cell (g := gl) mem1;
    have z_l := H.out.frozen (g := gl) mem1)
 | ((with_reducible refine gate_store (t := 4) (p := 16) rfl ?_);
    refine put_box (rs1 := (box gd [.slice A1 l1.length c1, .bool d1, .int .i64 u1, .int .i64 a1] 27 :: box gl [.slice A1 l1.length c1, .bool d1, .int .i64 u1, .int .i64 a1, .int .i64 L.size, .int .u64 L.fr, .int .u64 L.nx, .bool true] 134 :: rs)) rfl (t := 4) (p := 16) rfl rfl ?hr (H1 := (Sep.set1 H.out 7 (.bool true) rfl)) ?_;
    (case hr => first | (go_simp; done) | (go_simp; rfl));
    intro wd5 n_;
    clear H c_d z_d c_l z_l;
    have H := n_;
    clear n_;
    have c_d := H.out.cell (g := gd) mem0;
    have z_d := H.out.frozen (g := gd) mem0;
    have c_l := H.out.cell (g := gl) mem1;
    have z_l := H.out.frozen (g := gl) mem1)
 | fail)
  refine ⟨rfl, rfl, ⟨?_⟩⟩
  have h := (Sep.drop0 H.out)
  have e : chg L (l1, d1, u1, a1, n) = ⟨l1, d1, u1, a1, L.size, L.fr, L.nx, true⟩ := by simp [chg, hn]
  rw [e]
  exact h
theorem change_any {b w : World} {rs : List Res} (gl : Nat) (A : Option Addr) (c : Nat) (L : Lg) (A1 : Option Addr) (c1 : Nat) (R : DiskR) (H0 : Aside0 (Sep b w (box gl (lgc A c L) 134 :: rs))) :
    Calls Tryz.prog 72 #[.pointer (some ⟨gl, 0, none⟩), .agg #[.slice A1 R.1.length c1, .bool R.2.1, .int .i64 R.2.2.1, .int .i64 R.2.2.2.1], .int .i64 R.2.2.2.2] w fun e w' => Ends R.2.2.2.2 e ∧ Aside0 (Sep b w' (box gl (lgc A1 c1 (chg L R)) 134 :: rs)) := by
  obtain ⟨l1, d1, u1, a1, n⟩ := R
  by_cases hn : n = 0
  · subst hn
    exact (change_ok gl A c L A1 c1 l1 d1 u1 a1 H0).mono fun e w' h => ⟨.inl ⟨rfl, h.1⟩, h.2⟩
  · exact (change_no gl A c L A1 c1 l1 d1 u1 a1 n hn H0).mono fun e w' h => ⟨.inr ⟨hn, h.1⟩, h.2⟩
theorem results_cs {P : Program} {fn : Func} {p q : Tmp} {ty u : TypeId} (h : fn.results = #[.cell p ty, .cell q u]) (tmps : Array Value) (w : World) (g : Nat) (t : TypeId) (cs : Array Value) (fr : Nat × Nat) (d : TypeDesc) (g2 : Nat) (v : Value)
    (hp : tmps.getD p undef = .pointer (some ⟨g, 0, none⟩)) (hg : w.heap[g]? = some (.cells cs t fr))
    (hu : P.underlying ty = some d) (hd : (match d with | .struct _ | .array _ _ => true | _ => false) = true) (hi : (P.info? ty).map (·.size) = some cs.size)
    (hq : tmps.getD q undef = .pointer (some ⟨g2, 0, none⟩)) (hl : (loadVar u ⟨g2, 0, none⟩).run P w = .ok v w) :
    (results fn tmps).run P w = .ok (.tuple #[.agg cs, v]) w := by
  have hp' : tmps[p]?.getD undef = .pointer (some ⟨g, 0, none⟩) := by simpa using hp
  have hq' : tmps[q]?.getD undef = .pointer (some ⟨g2, 0, none⟩) := by simpa using hq
  simp [results, h, hp', hq', asAddr, run_loadVar_row w g t ty cs fr d hg hu hd hi, hl]
theorem load34 {w : World} {g : Nat} {v : Value} (h : ∀ j, w.cell? ⟨g, j, none⟩ = [v][j]?) : (loadVar 34 ⟨g, 0, none⟩).run Tryz.prog w = .ok v w := by
  have h0 : w.cell? ⟨g, 0, none⟩ = some v := h 0
  simp [loadVar, go_sem, Tryz.underlying34, h0]
theorem info30 : (Tryz.prog.info? 30).map (fun i => i.size) = some 8 := by kernel_rfl
/-- What a closure does with a log: it comes to R, and ends with n. What else lies there (rs) stays. -/
def DoesL (b : World) (gl fdo : Nat) (lb : Array Value) (L : Lg) (rs : List Res) (R : Lg) (n : Int) : Prop :=
  ∀ (A : Option Addr) (c : Nat) (w : World) (ts : List Res), Aside0 (Sep b w (box gl (lgc A c L) 134 :: rowF A c L.l :: (rs ++ ts))) →
    Calls Tryz.prog fdo lb w fun e w' => Ends n e ∧ ∃ A' c', Aside0 (Sep b w' (box gl (lgc A' c' R) 134 :: rowF A' c' R.l :: (rs ++ ts)))
set_option maxHeartbeats 4000000 in
theorem catch_idle (g2 g4 g5 : Nat) (w : World) :
    CallsD Tryz.prog 116 #[.pointer (some ⟨g2, 0, none⟩), .pointer (some ⟨g4, 0, none⟩), .pointer (some ⟨g5, 0, none⟩)] .returning w fun e u' w' => e = .returned (.tuple #[]) ∧ u' = .returning ∧ w' = w := by
  refine callsD_of_wpS Tryz.func116 rfl fun c₀ cs hu => ?_
  apply wpS_seq
  apply wpS_region
  simp [wpOpsS, go_sem, recoverD, hu, Tryz.ntmps116, Exit.thenS]
  apply wpS_seq
  apply wpS_region
  simp [wpOpsS, go_sem, recoverD, hu, Tryz.ntmps116, Exit.thenS]
  refine wpS_cond (t := false) (by simp [Act.eval, Array.replicate]) ?_
  simp only [Bool.false_eq_true, if_false]
  refine wpS_of_wp (wp_skip ?_)
  cases c₀
  simp_all [bodyPostS, results, Tryz.results116]
set_option maxHeartbeats 4000000 in
theorem catch_panicking {b w : World} {rs : List Res} (g2 g4 g5 gl : Nat) (x5 : Value) (A : Option Addr) (c : Nat) (L : Lg) (n : Int) (older : List PanicEntry) (H0 : Aside0 (Sep b w (box g5 [x5] 34 :: box g4 [.slice none 0 0, .bool false, .int .i64 0, .int .i64 0, .int .i64 0, .int .u64 0, .int .u64 0, .bool false] 30 :: box g2 [.pointer (some ⟨gl, 0, none⟩)] 131 :: box gl (lgc A c L) 134 :: rs))) :
    CallsD Tryz.prog 116 #[.pointer (some ⟨g2, 0, none⟩), .pointer (some ⟨g4, 0, none⟩), .pointer (some ⟨g5, 0, none⟩)] (.panicking ({ v := .iface 34 (.int .i64 n), recovered := false } :: older)) w fun e u' w' => e = .returned (.tuple #[]) ∧ u' = .panicking ({ v := .iface 34 (.int .i64 n), recovered := true } :: older) ∧ Aside0 (Sep b w' (box g5 [.int .i64 n] 34 :: box g4 (lgc A c L) 30 :: box g2 [.pointer (some ⟨gl, 0, none⟩)] 131 :: box gl (lgc A c L) 134 :: rs)) := by
  have H : Aside0 (Sep b w (box g5 [x5] 34 :: box g4 [.slice none 0 0, .bool false, .int .i64 0, .int .i64 0, .int .i64 0, .int .u64 0, .int .u64 0, .bool false] 30 :: box g2 [.pointer (some ⟨gl, 0, none⟩)] 131 :: box gl [.slice A L.l.length c, .bool L.dn, .int .i64 L.fu, .int .i64 L.fa, .int .i64 L.size, .int .u64 L.fr, .int .u64 L.nx, .bool L.br] 134 :: rs)) := H0
  clear H0
  have c_5 := H.out.cell (g := g5) mem0
  have z_5 := H.out.frozen (g := g5) mem0
  have c_4 := H.out.cell (g := g4) mem1
  have z_4 := H.out.frozen (g := g4) mem1
  have c_2 := H.out.cell (g := g2) mem2
  have z_2 := H.out.frozen (g := g2) mem2
  have c_l := H.out.cell (g := gl) mem3
  have z_l := H.out.frozen (g := gl) mem3
  have hta : ∀ w, (Instr.typeAssert (.iface 34 (.int .i64 n)) 20 34 false).run Tryz.prog w = .ok (.int .i64 n) w := fun w => by simp [Instr.typeAssert, go_sem, Tryz.underlying34]
  have hne : ¬ g5 = g4 := (List.pairwise_cons.1 H.out.apart).1 _ (List.mem_cons_self ..) g5 rfl
  have hne2 : ¬ g4 = g5 := fun e => hne e.symm
  refine callsD_of_wpS Tryz.func116 rfl fun c₀ cs hu => ?_
  simp only [List.size_toArray, List.length_cons, List.length_nil, Tryz.ntmps116, Nat.reduceAdd, Nat.reduceSub, Array.replicate_succ, Array.replicate_zero, List.push_toArray, List.append_toArray, List.nil_append, List.cons_append]
  apply wpS_seq
  apply wpS_region
  simp [wpOpsS, go_sem, recoverD, hu, Tryz.ntmps116, Exit.thenS]
  apply wpS_seq
  apply wpS_region
  simp [wpOpsS, go_sem, recoverD, hu, Tryz.ntmps116, Exit.thenS]
  refine wpS_cond (t := true) (by simp [Act.eval, Array.replicate]) ?_
  simp only [if_true]
  refine wpS_of_wp ?_
  go_region
  have h9 : Sep b _ (box g5 [.int .i64 n] 34 :: box g4 [.slice A L.l.length c, .bool L.dn, .int .i64 L.fu, .int .i64 L.fa, .int .i64 L.size, .int .u64 L.fr, .int .u64 L.nx, .bool L.br] 30 :: box g2 [.pointer (some ⟨gl, 0, none⟩)] 131 :: box gl [.slice A L.l.length c, .bool L.dn, .int .i64 L.fu, .int .i64 L.fa, .int .i64 L.size, .int .u64 L.fr, .int .u64 L.nx, .bool L.br] 134 :: rs) := (Sep.drew (Sep.set0 (Sep.set1 (Sep.set1 (Sep.set1 (Sep.set1 (Sep.set1 (Sep.set1 (Sep.set1 (Sep.set1 H.out 0 (.slice A L.l.length c) rfl) 1 (.bool L.dn) rfl) 2 (.int .i64 L.fu) rfl) 3 (.int .i64 L.fa) rfl) 4 (.int .i64 L.size) rfl) 5 (.int .u64 L.fr) rfl) 6 (.int .u64 L.nx) rfl) 7 (.bool L.br) rfl) 0 (.int .i64 n) rfl))
  cases c₀
  exact ⟨rfl, _, rfl, _, results_none rfl _ _ _, rfl, rfl, ⟨h9⟩⟩
set_option maxHeartbeats 4000000 in
theorem caught_any {b : World} {gl fdo : Nat} {lb : Array Value} {L : Lg} {rs : List Res} {R : Lg} {n : Int} (hdo : DoesL b gl fdo lb L rs R n) (he : ∀ args w, (callFunc fdo args).run Tryz.prog w = .ok (.enter fdo args) w) (A : Option Addr) (c : Nat) (w : World) (H0 : Aside0 (Sep b w (box gl (lgc A c L) 134 :: rowF A c L.l :: rs))) :
    Calls Tryz.prog 70 #[.pointer (some ⟨gl, 0, none⟩), .func (.func fdo) #[] lb] w fun e w' => ∃ A' c', e = .returned (.tuple #[.agg (lgc A' c' R).toArray, .int .i64 n]) ∧ Aside0 (Sep b w' (box gl (lgc A' c' R) 134 :: rowF A' c' R.l :: rs)) := by
  have hmf : ∀ (fn : Fn) (first cap : Array Value) (w : World), (Instr.makeFunc fn first cap).run Tryz.prog w = .ok (.func fn first cap) w := fun _ _ _ _ => rfl
  have HDO := Aside0.mk hdo
  clear hdo
  have H : Aside0 (Sep b w (box gl [.slice A L.l.length c, .bool L.dn, .int .i64 L.fu, .int .i64 L.fa, .int .i64 L.size, .int .u64 L.fr, .int .u64 L.nx, .bool L.br] 134 :: row k67 67 (.slice A (L.l).length c) L.l :: rs)) := H0
  clear H0
  have c_l := H.out.cell (g := gl) mem0
  have z_l := H.out.frozen (g := gl) mem0
  go_enter_defers Tryz.func70, Tryz.ntmps70
  go_wp2_with (first
 | ((with_reducible refine gate_dst (N := 2) rfl ?_);
    refine new_box rfl H (cs := [.pointer (some ⟨gl, 0, none⟩)]) (t := 131) ?hr ?_;
    (case hr => first | (go_simp; done) | (go_simp; rfl));
    intro g2 wd6 n_;
    simp only [Act.put, List.setIfInBounds_toArray, List.set_cons_zero, List.set_cons_succ];
    clear H c_l z_l;
    have H := n_;
    clear n_;
    have c_2 := H.out.cell (g := g2) mem0;
    have z_2 := H.out.frozen (g := g2) mem0;
    have c_l := H.out.cell (g := gl) mem1;
    have z_l := H.out.frozen (g := gl) mem1)
 | ((with_reducible refine gate_dst (N := 4) rfl ?_);
    refine new_box rfl H (cs := [.slice none 0 0, .bool false, .int .i64 0, .int .i64 0, .int .i64 0, .int .u64 0, .int .u64 0, .bool false]) (t := 30) ?hr ?_;
    (case hr => first | (go_simp; done) | (go_simp; rfl));
    intro g4 wd7 n_;
    simp only [Act.put, List.setIfInBounds_toArray, List.set_cons_zero, List.set_cons_succ];
    clear H c_2 z_2 c_l z_l;
    have H := n_;
    clear n_;
    have c_4 := H.out.cell (g := g4) mem0;
    have z_4 := H.out.frozen (g := g4) mem0;
    have c_2 := H.out.cell (g := g2) mem1;
    have z_2 := H.out.frozen (g := g2) mem1;
    have c_l := H.out.cell (g := gl) mem2;
    have z_l := H.out.frozen (g := gl) mem2)
 | ((with_reducible refine gate_dst (N := 5) rfl ?_);
    refine new_box rfl H (cs := [.int .i64 0]) (t := 34) ?hr ?_;
    (case hr => first | (go_simp; done) | (go_simp; rfl));
    intro g5 wd8 n_;
    simp only [Act.put, List.setIfInBounds_toArray, List.set_cons_zero, List.set_cons_succ];
    clear H c_4 z_4 c_2 z_2 c_l z_l;
    have H := n_;
    clear n_;
    have c_5 := H.out.cell (g := g5) mem0;
    have z_5 := H.out.frozen (g := g5) mem0;
    have c_4 := H.out.cell (g := g4) mem1;
    have z_4 := H.out.frozen (g := g4) mem1;
    have c_2 := H.out.cell (g := g2) mem2;
    have z_2 := H.out.frozen (g := g2) mem2;
    have c_l := H.out.cell (g := gl) mem3;
    have z_l := H.out.frozen (g := gl) mem3)
 | fail)
  refine (HDO.out A c _ [box g5 [.int .i64 0] 34, box g4 [.slice none 0 0, .bool false, .int .i64 0, .int .i64 0, .int .i64 0, .int .u64 0, .int .u64 0, .bool false] 30, box g2 [.pointer (some ⟨gl, 0, none⟩)] 131] ⟨H.out.perm (List.perm_append_comm (l₁ := [box g5 [.int .i64 0] 34, box g4 [.slice none 0 0, .bool false, .int .i64 0, .int .i64 0, .int .i64 0, .int .u64 0, .int .u64 0, .bool false] 30, box g2 [.pointer (some ⟨gl, 0, none⟩)] 131]))⟩).mono ?_
  rintro e w2 ⟨hE, A', c', H2⟩
  clear c_5 z_5 c_4 z_4 c_2 z_2 c_l z_l H
  have H : Aside0 (Sep b w2 (box g5 [.int .i64 0] 34 :: box g4 [.slice none 0 0, .bool false, .int .i64 0, .int .i64 0, .int .i64 0, .int .u64 0, .int .u64 0, .bool false] 30 :: box g2 [.pointer (some ⟨gl, 0, none⟩)] 131 :: box gl [.slice A' R.l.length c', .bool R.dn, .int .i64 R.fu, .int .i64 R.fa, .int .i64 R.size, .int .u64 R.fr, .int .u64 R.nx, .bool R.br] 134 :: row k67 67 (.slice A' (R.l).length c') R.l :: rs)) := ⟨H2.out.perm (List.perm_append_comm (l₁ := box gl (lgc A' c' R) 134 :: rowF A' c' R.l :: rs))⟩
  clear H2
  have c_5 := H.out.cell (g := g5) mem0
  have z_5 := H.out.frozen (g := g5) mem0
  have c_4 := H.out.cell (g := g4) mem1
  have z_4 := H.out.frozen (g := g4) mem1
  have c_2 := H.out.cell (g := g2) mem2
  have z_2 := H.out.frozen (g := g2) mem2
  have c_l := H.out.cell (g := gl) mem3
  have z_l := H.out.frozen (g := gl) mem3
  rcases hE with ⟨rfl, rfl⟩ | ⟨hn, rfl⟩
  ·
    go_wp2_with (first
 | ((with_reducible refine gate_store (t := 30) (p := 4) rfl ?_);
    refine put_box (rs1 := (box g5 [.int .i64 0] 34 :: box g4 [.slice A' R.l.length c', .bool R.dn, .int .i64 R.fu, .int .i64 R.fa, .int .i64 R.size, .int .u64 R.fr, .int .u64 R.nx, .bool R.br] 30 :: box g2 [.pointer (some ⟨gl, 0, none⟩)] 131 :: box gl [.slice A' R.l.length c', .bool R.dn, .int .i64 R.fu, .int .i64 R.fa, .int .i64 R.size, .int .u64 R.fr, .int .u64 R.nx, .bool R.br] 134 :: row k67 67 (.slice A' (R.l).length c') R.l :: rs)) rfl (t := 30) (p := 4) rfl rfl ?hr (H1 := (Sep.set1 (Sep.set1 (Sep.set1 (Sep.set1 (Sep.set1 (Sep.set1 (Sep.set1 (Sep.set1 H.out 0 (.slice A' R.l.length c') rfl) 1 (.bool R.dn) rfl) 2 (.int .i64 R.fu) rfl) 3 (.int .i64 R.fa) rfl) 4 (.int .i64 R.size) rfl) 5 (.int .u64 R.fr) rfl) 6 (.int .u64 R.nx) rfl) 7 (.bool R.br) rfl)) ?_;
    (case hr => first | (go_simp; done) | (go_simp; rfl));
    intro wd9 n_;
    clear H c_5 z_5 c_4 z_4 c_2 z_2 c_l z_l;
    have H := n_;
    clear n_;
    have c_5 := H.out.cell (g := g5) mem0;
    have z_5 := H.out.frozen (g := g5) mem0;
    have c_4 := H.out.cell (g := g4) mem1;
    have z_4 := H.out.frozen (g := g4) mem1;
    have c_2 := H.out.cell (g := g2) mem2;
    have z_2 := H.out.frozen (g := g2) mem2;
    have c_l := H.out.cell (g := gl) mem3;
    have z_l := H.out.frozen (g := gl) mem3)
 | ((with_reducible refine gate_store (t := 34) (p := 5) rfl ?_);
    refine put_box (rs1 := (box g5 [.int .i64 0] 34 :: box g4 [.slice A' R.l.length c', .bool R.dn, .int .i64 R.fu, .int .i64 R.fa, .int .i64 R.size, .int .u64 R.fr, .int .u64 R.nx, .bool R.br] 30 :: box g2 [.pointer (some ⟨gl, 0, none⟩)] 131 :: box gl [.slice A' R.l.length c', .bool R.dn, .int .i64 R.fu, .int .i64 R.fa, .int .i64 R.size, .int .u64 R.fr, .int .u64 R.nx, .bool R.br] 134 :: row k67 67 (.slice A' (R.l).length c') R.l :: rs)) rfl (t := 34) (p := 5) rfl rfl ?hr (H1 := (Sep.set0 H.out 0 (.int .i64 0) rfl)) ?_;
    (case hr => first | (go_simp; done) | (go_simp; rfl));
    intro wd10 n_;
    clear H c_5 z_5 c_4 z_4 c_2 z_2 c_l z_l;
    have H := n_;
    clear n_;
    have c_5 := H.out.cell (g := g5) mem0;
    have z_5 := H.out.frozen (g := g5) mem0;
    have c_4 := H.out.cell (g := g4) mem1;
    have z_4 := H.out.frozen (g := g4) mem1;
    have c_2 := H.out.cell (g := g2) mem2;
    have z_2 := H.out.frozen (g := g2) mem2;
    have c_l := H.out.cell (g := gl) mem3;
    have z_l := H.out.frozen (g := gl) mem3)
 | fail)
    refine leaves_cons (f := 116) (args := #[.pointer (some ⟨g2, 0, none⟩), .pointer (some ⟨g4, 0, none⟩), .pointer (some ⟨g5, 0, none⟩)]) (by simp) (by simp [go_sem]) ?_
    refine (catch_idle g2 g4 g5 _).mono ?_
    rintro e u' w'' ⟨rfl, rfl, rfl⟩
    clear c_5
    have c_5 := H.out.cell (g := g5) mem0
    simp only [Leaves, settle]
    exact ⟨_, results_cs (fn := Tryz.f70) rfl _ _ g4 30 _ _ _ g5 _ rfl (H.out.box_ (g := g4) mem1) Tryz.underlying30 rfl info30 rfl (load34 c_5), A', c', rfl, ⟨(Sep.drop0 (Sep.drop1 (Sep.drop2 H.out)))⟩⟩
  ·
    go_wp2_with fail
    refine leaves_cons (f := 116) (args := #[.pointer (some ⟨g2, 0, none⟩), .pointer (some ⟨g4, 0, none⟩), .pointer (some ⟨g5, 0, none⟩)]) (by simp) (by simp [go_sem]) ?_
    refine (catch_panicking g2 g4 g5 gl _ A' c' R n _ H).mono ?_
    rintro e u' w'' ⟨rfl, rfl, H9⟩
    clear c_5 z_5 c_4 z_4 c_2 z_2 c_l z_l H
    have H := H9
    have c_5 := H.out.cell (g := g5) mem0
    simp only [Leaves, settle]
    exact ⟨_, results_cs (fn := Tryz.f70) rfl _ _ g4 30 _ _ _ g5 _ rfl (H.out.box_ (g := g4) mem1) Tryz.underlying30 rfl info30 rfl (load34 c_5), A', c', rfl, ⟨(Sep.drop0 (Sep.drop1 (Sep.drop2 H.out)))⟩⟩
end Go.Proofs.YtanonhipicoigaaGreatDoor.U
namespace Go.Proofs.YtanonhipicoigaaGreatDoor.U
open Go.RowKit Go.Proofs.YtanonhipicoigaaGreatDoorW.PrintWords Go.Proofs.YtanonhipicoigaaGreatDoorW.PrintLast Go.Proofs.YtanonhipicoigaaGreatDoorW.PrintMore Go.Proofs.YtanonhipicoigaaGreatDoor.Sp Go.Proofs.YtanonhipicoigaaGreatDoor.SegP
set_option linter.unusedVariables false
set_option linter.unusedSimpArgs false
theorem copy_files {ops : Array Oper} {rest : List Oper} {o : Oper} {a : Act} {Q : Exit → Act → World → Prop} {b W : World} {rs : List Res} (hgd : o.guard = none) (s x : Operand) (ho : o.op = .call { callee := .builtin .append, args := #[s, x], argTypes := #[25, 25] })
    (A : Option Addr) (c : Nat) (l : List S67) (hs : a.eval s = .slice none 0 0) (hx : a.eval x = .slice A l.length c) (H : Aside0 (Sep b W rs)) (hr : Kd.C k67 W A l.length l) (hl : l.length ≤ 64)
    (h : ∀ A1 c1 W', Aside0 (Sep b W' (rowF A1 c1 l :: rs)) → wpList Tryz.prog ops Q rest (a.put o.dst (.slice A1 l.length c1)) W') : wpList Tryz.prog ops Q (o :: rest) a W := by
  refine Kd.R_append_rows k67 (w0 := W) W.heap.size hgd s x 25 67 (.agg #[(.string ⟨#[]⟩), (.string ⟨#[]⟩), (.int .i64 0)]) 40 ho Tryz.underlying25 info67 rfl (by decide) (by omega) (.slice none 0 0) [] l A l.length c (fun _ => True) (fun _ => False) hs hx
    (Kd.R_nil _ _ _ _ _) hr (fun x cs h => by obtain rfl := k67_open h; exact k67_mkM _ _ _ _) (fun _ h => h.elim) (fun _ _ => trivial) (Below.refl _ _) (Nat.le_refl _) (by simp only [List.length_nil]; omega) ?_
  intro v1 w1 ho hb hg hat
  obtain ⟨A1, c1, rfl⟩ := Kd.R_slice ho
  exact h A1 c1 w1 ⟨H.out.push_row hb ho k67_flat⟩
theorem info27 : (Tryz.prog.info? 27).map (fun i => i.size) = some 4 := by kernel_rfl
set_option maxHeartbeats 4000000 in
theorem own_any (A : Option Addr) (c : Nat) (l : List S67) (dn : Bool) (fu fa : Int) (w : World) (hr : Kd.C k67 w A l.length l) (hl : l.length ≤ 64) :
    Calls Tryz.prog 69 #[.agg #[.slice A l.length c, .bool dn, .int .i64 fu, .int .i64 fa]] w fun e w' => ∃ A1 c1, e = .returned (.agg #[.slice A1 l.length c1, .bool dn, .int .i64 fu, .int .i64 fa]) ∧ Aside0 (Sep w w' [rowF A1 c1 l]) := by
  have HRp := Aside0.mk hr
  clear hr
  have H := Aside0.mk (Sep.start w)
  go_enter Tryz.func69, Tryz.ntmps69
  go_wp2_with (first
 | ((with_reducible refine gate_dst (N := 1) rfl ?_);
    refine new_box rfl H (cs := [.slice A l.length c, .bool dn, .int .i64 fu, .int .i64 fa]) (t := 27) ?hr ?_;
    (case hr => first | (go_simp; done) | (go_simp; rfl));
    intro gd wd1 n_;
    simp only [Act.put, List.setIfInBounds_toArray, List.set_cons_zero, List.set_cons_succ];
    clear H;
    have H := n_;
    clear n_;
    have c_d := H.out.cell (g := gd) mem0;
    have z_d := H.out.frozen (g := gd) mem0)
 | ((with_reducible refine gate_dst (N := 2) rfl ?_);
    refine new_box rfl H (cs := [.slice none 0 0, .bool false, .int .i64 0, .int .i64 0]) (t := 27) ?hr ?_;
    (case hr => first | (go_simp; done) | (go_simp; rfl));
    intro gz wd2 n_;
    simp only [Act.put, List.setIfInBounds_toArray, List.set_cons_zero, List.set_cons_succ];
    clear H c_d z_d;
    have H := n_;
    clear n_;
    have c_z := H.out.cell (g := gz) mem0;
    have z_z := H.out.frozen (g := gz) mem0;
    have c_d := H.out.cell (g := gd) mem1;
    have z_d := H.out.frozen (g := gd) mem1)
 | ((with_reducible refine gate_builtin (b := .append) (xs := #[.const (.slice none 0 0), .tmp 4]) rfl ?_); at_builtin;
    refine copy_files rfl _ _ rfl A c l rfl rfl H (H.out.came HRp.out) hl ?_;
    intro A1 c1 wd3 n_;
    clear H c_z z_z c_d z_d;
    have H := n_;
    clear n_;
    have c_z := H.out.cell (g := gz) mem1;
    have z_z := H.out.frozen (g := gz) mem1;
    have c_d := H.out.cell (g := gd) mem2;
    have z_d := H.out.frozen (g := gd) mem2)
 | ((with_reducible refine gate_store (t := 25) (p := 6) rfl ?_);
    refine put_box (rs1 := [row k67 67 (.slice A1 (l).length c1) l, box gz [.slice none 0 0, .bool false, .int .i64 0, .int .i64 0] 27, box gd [.slice A1 l.length c1, .bool dn, .int .i64 fu, .int .i64 fa] 27]) rfl (t := 25) (p := 6) rfl rfl ?hr (H1 := (Sep.set2 H.out 0 (.slice A1 l.length c1) rfl)) ?_;
    (case hr => first | (go_simp; done) | (go_simp; rfl));
    intro wd4 n_;
    clear H c_z z_z c_d z_d;
    have H := n_;
    clear n_;
    have c_z := H.out.cell (g := gz) mem1;
    have z_z := H.out.frozen (g := gz) mem1;
    have c_d := H.out.cell (g := gd) mem2;
    have z_d := H.out.frozen (g := gd) mem2)
 | ((with_reducible refine gate_store (t := 27) (p := 2) rfl ?_);
    refine put_box (rs1 := [row k67 67 (.slice A1 (l).length c1) l, box gz [.slice A1 l.length c1, .bool dn, .int .i64 fu, .int .i64 fa] 27, box gd [.slice A1 l.length c1, .bool dn, .int .i64 fu, .int .i64 fa] 27]) rfl (t := 27) (p := 2) rfl rfl ?hr (H1 := (Sep.set1 (Sep.set1 (Sep.set1 (Sep.set1 H.out 0 (.slice A1 l.length c1) rfl) 1 (.bool dn) rfl) 2 (.int .i64 fu) rfl) 3 (.int .i64 fa) rfl)) ?_;
    (case hr => first | (go_simp; done) | (go_simp; rfl));
    intro wd5 n_;
    clear H c_z z_z c_d z_d;
    have H := n_;
    clear n_;
    have c_z := H.out.cell (g := gz) mem1;
    have z_z := H.out.frozen (g := gz) mem1;
    have c_d := H.out.cell (g := gd) mem2;
    have z_d := H.out.frozen (g := gd) mem2)
 | fail)
  refine bodyPost_ret (results_single (r := .cell 2 27) rfl (.cell gz 27 _ _ _ rfl (H.out.box_ (g := gz) mem1) Tryz.underlying27 rfl info27 .nil)) rfl ?_
  exact ⟨A1, c1, rfl, ⟨(Sep.drop1 (Sep.drop2 H.out))⟩⟩
end Go.Proofs.YtanonhipicoigaaGreatDoor.U
namespace Go.Proofs.YtanonhipicoigaaGreatDoor.U
open Go.RowKit Go.Proofs.YtanonhipicoigaaGreatDoorW.PrintWords Go.Proofs.YtanonhipicoigaaGreatDoorW.PrintLast Go.Proofs.YtanonhipicoigaaGreatDoorW.PrintMore Go.Proofs.YtanonhipicoigaaGreatDoor.Sp Go.Proofs.YtanonhipicoigaaGreatDoor.SegP
set_option linter.unusedVariables false
set_option linter.unusedSimpArgs false
theorem or_byte {n b : Int} (h0 : 0 ≤ n) (h1 : n < 16777216) (b0 : 0 ≤ b) (b1 : b ≤ 255) : bits .or .i64 (n * 256) b = n * 256 + b := by
  have e : (n * 256) % 2 ^ 8 = 0 := by
    rw [show (2 : Int) ^ 8 = 256 from rfl]
    omega
  refine bits_join .i64 62 (by decide) (fun m hm0 hm1 => ?_) 8 (n * 256) b (by omega) e ?_ b0 ?_ ?_
  · have h2 : (2 : Int) ^ 62 = 4611686018427387904 := rfl
    rw [h2] at hm1
    rw [IntKind.wrap_i64]
    omega
  · have h2 : (2 : Int) ^ 62 = 4611686018427387904 := rfl
    rw [h2]
    omega
  · have h2 : (2 : Int) ^ 8 = 256 := rfl
    rw [h2]
    omega
  · have h2 : (2 : Int) ^ 62 = 4611686018427387904 := rfl
    rw [h2]
    omega
def encR (x : Rc) : Array Value := #[.int .i64 (x.1 : Int), .agg #[.int .u64 (x.2.1 : Int), .string x.2.2]]
def ownR (gs gq : Nat) (s : ByteArray) (q : Nat) (pre : List Rc) : List Res := [box gq [.int .u64 ((q + pre.length : Nat) : Int)] 28, box gs [.string s] 9]
set_option maxHeartbeats 4000000 in
set_option maxRecDepth 100000 in
theorem iter_ok (b0 : World) (s : ByteArray) (q : Nat) (gs gq : Nat) (hs : s.size ≤ 262144) (hq : q ≤ most) : IterOK Tryz.prog b0 159 #[.pointer (some ⟨gs, 0, none⟩), .pointer (some ⟨gq, 0, none⟩)] encR (recsAt s 0 q) (ownR gs gq s q) := by
  intro l T W hY HH
  obtain ⟨ts0, hT0, H⟩ := HH
  refine callsIn_wide.2 ?_
  obtain ⟨xs, hxs⟩ : ∃ xs, xs = recsAt s 0 q := ⟨_, rfl⟩
  rw [← hxs] at hY ⊢
  have HY := Aside0.mk hY
  have HX := Aside0.mk hxs
  clear hY hxs
  have H1 : Aside0 (Sep b0 W (box gq [.int .u64 (q : Int)] 28 :: box gs [.string s] 9 :: ts0)) := H
  clear H
  have c_q := H1.out.cell (g := gq) mem0
  have c_s := H1.out.cell (g := gs) mem1
  go_enter Tryz.func159, Tryz.ntmps159
  go_wp2_with fail
  go_loopw [4, 5, 6, 7] (fun v4 v5 v6 v7 wr => ∃ (pre : List Rc) (at_ m : Nat) (ts : List Res), v4 = .int .i64 (at_ : Int) ∧ at_ ≤ s.size ∧ Aside0 (m = q + pre.length) ∧ Aside0 (m ≤ most) ∧ Aside0 (xs = pre ++ recsAt s at_ m) ∧ Aside0 (T pre ts) ∧ Aside0 (Sep b0 wr (box gq [.int .u64 (m : Int)] 28 :: box gs [.string s] 9 :: ts)))
    (fun v4 _ _ _ _ => s.size - (intOf v4).toNat)
  case atStart => exact ⟨[], 0, q, ts0, rfl, by omega, ⟨rfl⟩, ⟨hq⟩, HX, ⟨hT0⟩, H1⟩
  case round =>
    clear H1 c_q c_s
    obtain ⟨pre, at_, m, ts, rfl, hat, HM, HMM, HXS, HT, H0⟩ := hrel
    obtain ⟨mi, hmi⟩ : ∃ mi : Int, mi = (m : Int) := ⟨_, rfl⟩
    have H : Aside0 (Sep b0 wr (box gq [.int .u64 mi] 28 :: box gs [.string s] 9 :: ts)) := by rw [hmi]; exact H0
    have HMI := Aside0.mk hmi
    have hm0 : 0 ≤ mi := by omega
    clear H0 hmi
    have c_q := H.out.cell (g := gq) mem0
    have c_s := H.out.cell (g := gs) mem1
    have fin : recsAt s at_ m = [] → ∃ ts, T xs ts ∧ Aside0 (Sep b0 wr (ownR gs gq s q xs ++ ts)) := by
      intro h
      have h1 := HXS.out
      rw [h, List.append_nil] at h1
      refine ⟨ts, by rw [h1]; exact HT.out, ?_⟩
      rw [h1, ownR, ← HM.out, ← HMI.out]
      exact H
    have FIN := Aside0.mk fin
    clear fin
    by_cases hgo : at_ + 16 ≤ s.size ∧ m < most
    · obtain ⟨h16, hmo⟩ := hgo
      have HMO := Aside0.mk hmo
      have hmo2 : mi < 4611686018427387904 := by
        have := HMI.out
        unfold most at hmo
        omega
      clear hmo
      go_wp2_with fail
      go_loop [5, 6] (fun v5 v6 => ∃ (j : Nat), v5 = .int .i64 (numV s at_ j) ∧ v6 = .int .i64 (3 - (j : Int)) ∧ j ≤ 4) (fun _ v6 => ((intOf v6) + 1).toNat)
      case atStart => exact ⟨0, rfl, rfl, by omega⟩
      case round =>
        obtain ⟨j, rfl, rfl, hj⟩ := hrel
        by_cases hlt : j < 4
        · have hb := bt_range s ((at_ : Int) + (3 - (j : Int)))
          have ha : (0 : Int) ≤ at_ + (3 - (j : Int)) := by omega
          have ha2 : (at_ : Int) + (3 - (j : Int)) < (s.size : Int) := by omega
          have hnv := numV_range s at_ j
          have hp : (256 : Int) ^ j ≤ 256 ^ 3 := by
            have hj3 : j ≤ 3 := by omega
            have := Nat.pow_le_pow_right (show 0 < 256 by decide) hj3
            exact_mod_cast this
          have HN := Aside0.mk (numV_range s at_ j)
          have hnv1 : numV s at_ j < 16777216 := by
            have h2 : (256 : Int) ^ 3 = 16777216 := rfl
            omega
          have hnv0 : 0 ≤ numV s at_ j := hnv.1
          have HS := Aside0.mk (show numV s at_ (j + 1) = numV s at_ j * 256 + bt s ((at_ : Int) + (3 - (j : Int))) from rfl)
          clear hnv hp HN
          obtain ⟨nv, hnv⟩ : ∃ nv, nv = numV s at_ j := ⟨_, rfl⟩
          rw [← hnv] at hnv0 hnv1 HS ⊢
          clear hnv
          go_wp2
          refine ⟨⟨j + 1, ?_, by congr 1; omega, by omega⟩, by simp [intOf]; omega⟩
          rw [HS.out]
          congr 1
          have e : ((at_ : Int) + (3 - (j : Int))).toNat = at_ + (3 - j) := by omega
          have hbt := bt_at s ((at_ : Int) + (3 - (j : Int))) (by omega)
          simp only [e] at hbt
          rw [hbt, show wrap64 (bt s ((at_ : Int) + (3 - (j : Int)))) = bt s ((at_ : Int) + (3 - (j : Int))) by unfold wrap64; omega]
          exact or_byte hnv0 hnv1 hb.1 hb.2
        · obtain rfl : j = 4 := by omega
          obtain ⟨k, hk⟩ : ∃ k, k = numL (((byt s).drop at_).take 4) := ⟨_, rfl⟩
          rw [num_eq h16, ← hk]
          have HK := Aside0.mk hk
          clear hk
          by_cases hbig : k ≤ 65536 ∧ k ≤ s.size - at_ - 16
          · obtain ⟨hb1, hb2⟩ := hbig
            have hb3 : (k : Int) ≤ (s.size : Int) - (at_ : Int) - 16 := by omega
            obtain ⟨dt, hdt⟩ : ∃ dt, dt = s.extract (at_ + 16) (at_ + 16 + k) := ⟨_, rfl⟩
            obtain ⟨fr, hfr⟩ : ∃ fr, fr = s.extract at_ (at_ + 16 + k) := ⟨_, rfl⟩
            have HDT := Aside0.mk hdt
            have HFR := Aside0.mk hfr
            have hds : dt.size = k := by rw [hdt, ByteArray.size_extract]; omega
            have HDS := Aside0.mk hds
            replace hdt := hdt.symm
            replace hfr := hfr.symm
            clear hds
            obtain ⟨ff, hff⟩ : ∃ ff, ff = frameF mi dt := ⟨_, rfl⟩
            have HFF := Aside0.mk hff
            have FM := Aside0.mk (fun w => hff ▸ frame_any mi dt w (by rw [HDS.out]; exact hb1) hm0 (by omega))
            clear hff
            go_upto_region 10 with fail
            have hw1 : wrap64 ((at_ : Int) + 16) = (at_ : Int) + 16 := by unfold wrap64; omega
            have hw2 : wrap64 ((at_ : Int) + 16 + (k : Int)) = (at_ : Int) + 16 + (k : Int) := by unfold wrap64; omega
            have hw3 : (0 : Int) ≤ (at_ : Int) + 16 + (k : Int) := by omega
            have hw4 : (at_ : Int) + 16 + (k : Int) ≤ (s.size : Int) := by omega
            have hw5 : (at_ : Int) ≤ (at_ : Int) + 16 + (k : Int) := by omega
            have hw6 : ((at_ : Int) + 16 + (k : Int)).toNat = at_ + 16 + k := by omega
            refine start_ (n := 11) (S := fun w' => w'.cell? ⟨gs, 0, none⟩ = some (.string s) ∧ w'.cell? ⟨gq, 0, none⟩ = some (.int .u64 mi) ∧ Sp.Sep b0 w' (box gq [.int .u64 mi] 28 :: box gs [.string s] 9 :: ts)) (ds := []) #[false, false, false, false, false, false, false, false, false, false, false] (by kernel_rfl) rfl rfl ⟨((Sep.cell (g := gs) (Sep.drew H.out) mem1 0).trans rfl), ((Sep.cell (g := gq) (Sep.drew H.out) mem0 0).trans rfl), (Sep.drew H.out)⟩ (fun hHeld => ?_)
            refine pure_ (i := 1) (N := some 52) (v := ?_) (a' := ?_) #[false, true, false, false, false, false, false, false, false, false, false] rfl rfl (by kernel_rfl) (fun _ _ _ h => h) (Or.inl ⟨by rfl, ?_⟩) ?_ ?_
            rotate_left
            · intro w'
              go_simp
              with_reducible rfl
            rotate_left
            · simp only [Act.put, List.setIfInBounds_toArray, List.set_cons_zero, List.set_cons_succ, i64_w, i32_w]
              rfl
            refine pure_ (i := 2) (N := some 53) (v := ?_) (a' := ?_) #[false, true, true, false, false, false, false, false, false, false, false] rfl rfl (by kernel_rfl) (fun _ _ _ h => h) (Or.inl ⟨by rfl, ?_⟩) ?_ ?_
            rotate_left
            · intro w'
              go_simp
              with_reducible rfl
            rotate_left
            · simp only [Act.put, List.setIfInBounds_toArray, List.set_cons_zero, List.set_cons_succ, i64_w, i32_w]
              rfl
            refine pure_ (i := 3) (N := some 54) (v := ?_) (a' := ?_) #[false, true, true, true, false, false, false, false, false, false, false] rfl rfl (by kernel_rfl) (fun _ _ _ h => h) (Or.inl ⟨by rfl, ?_⟩) ?_ ?_
            rotate_left
            · intro w'
              go_simp
              with_reducible rfl
            rotate_left
            · simp only [Act.put, List.setIfInBounds_toArray, List.set_cons_zero, List.set_cons_succ, i64_w, i32_w]
              rfl
            refine pure_ (i := 4) (N := some 55) (v := ?_) (a' := ?_) #[false, true, true, true, true, false, false, false, false, false, false] rfl rfl (by kernel_rfl) (fun _ _ _ h => h) (Or.inl ⟨by rfl, ?_⟩) ?_ ?_
            rotate_left
            · intro w'
              go_simp
              with_reducible rfl
            rotate_left
            · simp only [Act.put, List.setIfInBounds_toArray, List.set_cons_zero, List.set_cons_succ, i64_w, i32_w]
              rfl
            refine pure_ (i := 5) (N := some 56) (v := ?_) (a' := ?_) #[false, true, true, true, true, true, false, false, false, false, false] rfl rfl (by kernel_rfl) (fun _ _ _ h => h) (Or.inl ⟨by rfl, ?_⟩) ?_ ?_
            rotate_left
            · intro w'
              go_simp
              with_reducible rfl
            rotate_left
            · simp only [Act.put, List.setIfInBounds_toArray, List.set_cons_zero, List.set_cons_succ, i64_w, i32_w]
              rfl
            refine pure_ (i := 8) (N := some 59) (v := ?_) (a' := ?_) #[false, true, true, true, true, true, false, false, true, false, false] rfl rfl (by kernel_rfl) (fun _ _ _ h => h) (Or.inl ⟨by rfl, ?_⟩) ?_ ?_
            rotate_left
            · intro w'
              go_simp
              with_reducible rfl
            rotate_left
            · simp only [Act.put, List.setIfInBounds_toArray, List.set_cons_zero, List.set_cons_succ, i64_w, i32_w]
              rfl
            refine take_ (i := 0) (N := some 51) (v := ?_) (a' := ?_) #[true, true, true, true, true, true, false, false, true, false, false] rfl rfl (by kernel_rfl) (fun _ _ _ h => h) (Or.inl ⟨by rfl, ?_⟩) hHeld ?_ ?_
            rotate_left
            · rintro w' ⟨s0, s1, s2⟩
              go_simp
              with_reducible rfl
            rotate_left
            · simp only [Act.put, List.setIfInBounds_toArray, List.set_cons_zero, List.set_cons_succ, i64_w, i32_w]
              rfl
            refine pure_ (i := 6) (N := some 57) (v := ?_) (a' := ?_) #[true, true, true, true, true, true, true, false, true, false, false] rfl rfl (by kernel_rfl) (fun _ _ _ h => h) (Or.inl ⟨by rfl, ?_⟩) ?_ ?_
            rotate_left
            · intro w'
              go_simp
              with_reducible rfl
            rotate_left
            · simp only [Act.put, List.setIfInBounds_toArray, List.set_cons_zero, List.set_cons_succ, i64_w, i32_w]
              rfl
            refine take_ (i := 7) (N := some 58) (v := ?_) (a' := ?_) #[true, true, true, true, true, true, true, true, true, false, false] rfl rfl (by kernel_rfl) (fun _ _ _ h => h) (Or.inl ⟨by rfl, ?_⟩) hHeld ?_ ?_
            rotate_left
            · rintro w' ⟨s0, s1, s2⟩
              go_simp
              with_reducible rfl
            rotate_left
            · simp only [Act.put, List.setIfInBounds_toArray, List.set_cons_zero, List.set_cons_succ, i64_w, i32_w]
              rfl
            refine one_ (i := 9) (N := some 60) #[true, true, true, true, true, true, true, true, true, true, false] rfl rfl (by kernel_rfl) (by decide) (fun K hK => ?_)
            refine goes_ Tryz.func78 (by kernel_rfl) rfl #[.int .u64 mi, .string dt] (by rfl) rfl rfl (by simp only [List.map_toArray, List.map_cons, List.map_nil]; rfl) ?_
            with_reducible refine (FM.out _).mono ?_
            rintro e w3 ⟨rfl, hb⟩
            refine ⟨_, rfl, ?_⟩
            refine hK.out _ _ ⟨((Sep.cell (g := gs) (Sep.step hHeld.2.2 hb) mem1 0).trans rfl), ((Sep.cell (g := gq) (Sep.step hHeld.2.2 hb) mem0 0).trans rfl), (Sep.step hHeld.2.2 hb)⟩ (fun hHeld => ?_)
            clear hK K
            refine norm_ (a' := ?_) ?_ ?_
            rotate_left
            · show Act.put _ (some 60) _ = _
              simp only [Act.put, List.setIfInBounds_toArray, List.set_cons_zero, List.set_cons_succ, i64_w, i32_w]
              rfl
            refine pure_ (i := 10) (N := some 61) (v := ?_) (a' := ?_) #[true, true, true, true, true, true, true, true, true, true, true] rfl rfl (by kernel_rfl) (fun _ _ _ h => h) (Or.inl ⟨by rfl, ?_⟩) ?_ ?_
            rotate_left
            · intro w'
              go_simp
              with_reducible rfl
            rotate_left
            · simp only [Act.put, List.setIfInBounds_toArray, List.set_cons_zero, List.set_cons_succ, i64_w, i32_w]
              rfl
            refine done_ (by kernel_rfl) ?_
            clear hw1 hw2 hw3 hw4 hw5 hw6
            obtain ⟨_, _, H3⟩ := hHeld
            replace H := Aside0.mk H3
            clear H3 c_q c_s
            have c_q := H.out.cell (g := gq) mem0
            have c_s := H.out.cell (g := gs) mem1
            have z_q := H.out.frozen (g := gq) mem0
            rw [hdt]
            cases hq1 : (fr.toList == ff.toList)
            · have hne : fr ≠ ff := by
                intro e
                rw [e] at hq1
                simp at hq1
              have hnone := recs_none (first_other (s := s) (a := at_) (n := m) HK.out (by rw [← HFR.out, ← HDT.out, ← HMI.out, ← HFF.out]; exact hne))
              have h1 := HXS.out
              rw [hnone, List.append_nil] at h1
              have HF := Aside0.mk h1
              clear hnone h1 hne
              go_wp2_with fail
              refine bodyPost_ret (results_none rfl _ _ _) rfl ?_
              refine ⟨⟨_, rfl⟩, ts, by rw [HF.out]; exact HT.out, ?_⟩
              rw [HF.out, ownR, ← HM.out, ← HMI.out]
              exact H
            · have heq : fr = ff := by
                have h := beq_iff_eq.1 hq1
                rw [ByteArray.toList_eq, ByteArray.toList_eq] at h
                exact byt_inj h
              have hsome := recs_some (first_is (s := s) (a := at_) (n := m) HK.out h16 HMO.out hb1 hb2 (by rw [← HFR.out, ← HDT.out, ← HMI.out, ← HFF.out]; exact heq))
              rw [← HDT.out] at hsome
              have h1 := HXS.out
              rw [hsome] at h1
              have HXX := Aside0.mk h1
              clear hsome h1 heq
              go_upto_region 12 with fail
              refine wpIn_wide (n := 0).1 ?_
              have H4 : Aside0 (Sep b0 w3 (ownR gs gq s q pre ++ ts)) := by
                rw [ownR, ← HM.out, ← HMI.out]
                exact H
              obtain ⟨fn, tmps, assign, body, hy, hR⟩ := HY.out pre _ _ HXX.out w3 ts HT.out H4
              have he : encR (at_ + 16 + dt.size, m, dt) = #[.int .i64 ((at_ : Int) + (16 + (k : Int))), .agg #[.int .u64 mi, .string dt]] := by
                simp only [encR, HDS.out, HMI.out]
                rw [show ((at_ + 16 + k : Nat) : Int) = (at_ : Int) + (16 + (k : Int)) by omega]
              rw [he] at hy
              clear H4 he
              gi_wp2
              refine ⟨rfl, hR.mono ?_⟩
              rintro e w4 ⟨rfl, ts2, hT2, H5⟩
              have HT2 := Aside0.mk hT2
              clear hT2
              have H6 : Aside0 (Sep b0 w4 (box gq [.int .u64 mi] 28 :: box gs [.string s] 9 :: ts2)) := by
                have := H5
                rw [ownR, ← HM.out, ← HMI.out] at this
                exact this
              clear H5 H hy hR c_q c_s z_q
              have c_q := H6.out.cell (g := gq) mem0
              have c_s := H6.out.cell (g := gs) mem1
              have z_q := H6.out.frozen (g := gq) mem0
              gi_wp2
              go_wp2
              refine ⟨⟨pre ++ [(at_ + 16 + dt.size, m, dt)], at_ + 16 + k, m + 1, ts2, ?_, by omega, ⟨?_⟩, ⟨?_⟩, ⟨?_⟩, HT2, ⟨?_⟩⟩, ?_⟩
              · rw [show ((at_ + 16 + k : Nat) : Int) = (at_ : Int) + (16 + (k : Int)) by omega]
              · rw [HM.out, List.length_append]
                rfl
              · have := HMO.out
                omega
              · rw [HXX.out, HDS.out]
                simp
              · have h := Sep.set0 (cs' := [.int .u64 (((m + 1 : Nat)) : Int)]) H6.out 0 (.int .u64 (mi + 1)) (by rw [HMI.out]; rfl)
                exact h
              · simp [intOf]
                omega
          · have hnone := FIN.out (recs_none (first_big HK.out hbig))
            have HF := Aside0.mk hnone
            clear hnone
            have hor : ¬ k ≤ 65536 ∨ (k ≤ 65536 ∧ ¬ (k : Int) ≤ (s.size : Int) - (at_ : Int) - 16) := by omega
            clear hbig
            rcases hor with h1 | ⟨h1, h2⟩
            · go_wp2_with fail
              refine bodyPost_ret (results_none rfl _ _ _) rfl ?_
              exact ⟨⟨_, rfl⟩, HF.out⟩
            · go_wp2_with fail
              refine bodyPost_ret (results_none rfl _ _ _) rfl ?_
              exact ⟨⟨_, rfl⟩, HF.out⟩
    · have hnone := FIN.out (recs_none (first_no hgo))
      have hor : ¬ (at_ + 16 ≤ s.size) ∨ (at_ + 16 ≤ s.size ∧ (4611686018427387904 : Int) ≤ mi) := by
        have := HMI.out
        unfold most at hgo
        omega
      have HF := Aside0.mk hnone
      clear hgo hnone
      rcases hor with h16 | ⟨h16, hmo⟩
      · go_wp2_with fail
        go_end0
        exact ⟨⟨_, rfl⟩, HF.out⟩
      · go_wp2_with fail
        go_end0
        exact ⟨⟨_, rfl⟩, HF.out⟩
end Go.Proofs.YtanonhipicoigaaGreatDoor.U
namespace Go.Proofs.YtanonhipicoigaaGreatDoor.U
open Go.RowKit Go.Proofs.YtanonhipicoigaaGreatDoorW.PrintWords Go.Proofs.YtanonhipicoigaaGreatDoorW.PrintLast Go.Proofs.YtanonhipicoigaaGreatDoorW.PrintMore Go.Proofs.YtanonhipicoigaaGreatDoor.Sp Go.Proofs.YtanonhipicoigaaGreatDoor.SegP
set_option linter.unusedVariables false
set_option linter.unusedSimpArgs false
theorem frames_any (b w : World) (rs : List Res) (s : ByteArray) (q : Int) (H : Aside0 (Sep b w rs)) :
    Calls Tryz.prog 115 #[.string s, .int .u64 q] w fun e w' => ∃ gs gq, e = .returned (.func (.func 159) #[] #[.pointer (some ⟨gs, 0, none⟩), .pointer (some ⟨gq, 0, none⟩)]) ∧ Aside0 (Sep b w' (box gq [.int .u64 q] 28 :: box gs [.string s] 9 :: rs)) := by
  go_enter Tryz.func115, Tryz.ntmps115
  go_wp2_with (first
    | ((with_reducible refine gate_dst (N := 2) rfl ?_);
       refine new_box rfl H (cs := [.string s]) (t := 9) ?hr ?_;
       (case hr => first | (go_simp; done) | (go_simp; rfl));
       intro gs w1 n_;
       simp only [Act.put, List.setIfInBounds_toArray, List.set_cons_zero, List.set_cons_succ];
       clear H; have H := n_; clear n_)
    | ((with_reducible refine gate_dst (N := 3) rfl ?_);
       refine new_box rfl H (cs := [.int .u64 q]) (t := 28) ?hr ?_;
       (case hr => first | (go_simp; done) | (go_simp; rfl));
       intro gq w2 n_;
       simp only [Act.put, List.setIfInBounds_toArray, List.set_cons_zero, List.set_cons_succ];
       clear H; have H := n_; clear n_)
    | fail)
  go_ret
  exact ⟨gs, gq, rfl, H⟩
end Go.Proofs.YtanonhipicoigaaGreatDoor.U
namespace Go.Proofs.YtanonhipicoigaaGreatDoor.SegP
open Go.Proofs.YtanonhipicoigaaGreatDoor.U Go.RowKit Go.Proofs.YtanonhipicoigaaGreatDoorW.PrintWords
set_option linter.unusedVariables false
set_option linter.unusedSimpArgs false
def toRec (x : Rc) : S62 := ⟨(x.2.1 : Int), x.2.2⟩
/-- Records as the program has them. -/
def recR : List Bytes → Nat → List S62
  | [], _ => []
  | d :: ds, n => ⟨(n : Int), ⟨d.toArray⟩⟩ :: recR ds (n + 1)
theorem recR_length : ∀ (ds : List Bytes) (n : Nat), (recR ds n).length = ds.length
  | [], _ => rfl
  | d :: ds, n => by rw [recR, List.length_cons, recR_length ds (n + 1), List.length_cons]
theorem recR_append : ∀ (a b : List Bytes) (n : Nat), recR (a ++ b) n = recR a n ++ recR b (n + a.length)
  | [], b, n => by simp [recR]
  | d :: a, b, n => by
    rw [List.cons_append, recR, recR, recR_append a b (n + 1), List.length_cons, show n + 1 + a.length = n + (a.length + 1) by omega]
    rfl
theorem recsL_map : ∀ (ds : List Bytes) (a n : Nat), (recsL ds a n).map toRec = recR ds n
  | [], _, _ => rfl
  | d :: ds, a, n => by
    rw [recsL, List.map_cons, recsL_map ds, recR]
    rfl
theorem recsL_length : ∀ (ds : List Bytes) (a n : Nat), (recsL ds a n).length = ds.length
  | [], _, _ => rfl
  | d :: ds, a, n => by rw [recsL, List.length_cons, recsL_length ds, List.length_cons]
/-- Where the last record ends. -/
def endOf (a : Nat) (l : List Rc) : Nat := l.foldl (fun _ r => r.1) a
theorem endOf_snoc (a : Nat) (l : List Rc) (x : Rc) : endOf a (l ++ [x]) = x.1 := by simp [endOf]
theorem endOf_recs : ∀ (ds : List Bytes) (a n : Nat), endOf a (recsL ds a n) = a + (framesL SU n ds).length
  | [], a, n => by simp [recsL, endOf, framesL]
  | d :: ds, a, n => by
    have h := endOf_recs ds (a + 16 + d.length) (n + 1)
    rw [recsL, framesL, List.length_append, frame_length]
    show endOf (a + 16 + d.length) (recsL ds (a + 16 + d.length) (n + 1)) = _
    rw [h]
    omega
theorem read_end (s : ByteArray) (n : Nat) : endOf 0 (recsAt s 0 n) = (readB SU (byt s) n).2 := by
  obtain ⟨r, h1, h2, _⟩ := readB_spec SU _ (byt s) n (Nat.le_refl _)
  rw [recsAt, List.drop_zero, endOf_recs, h2, Nat.zero_add]
/-- How far find has come: behind i places. -/
def FI (F : Fd) (ps : List Pl) (i : Nat) (ds : List Bytes) (m : Nat) (t : Option (Pl × Nat)) : Prop :=
  (t = none ∧ F = ⟨ds ++ (goF SU (ps.drop i) m).recs, (goF SU (ps.drop i) m).next, (goF SU (ps.drop i) m).torn, (goF SU (ps.drop i) m).gone⟩) ∨ (∃ x, t = some x ∧ F = ⟨ds, m, some x, ps.drop i⟩)
theorem FI_start (ps : List Pl) (n : Nat) : FI (goF SU ps n) ps 0 [] n none := .inl ⟨rfl, by simp⟩
theorem FI_torn {F : Fd} {ps : List Pl} {i : Nat} {ds : List Bytes} {m : Nat} {x : Pl × Nat} (h : FI F ps i ds m (some x)) : F = ⟨ds, m, some x, ps.drop i⟩ := by
  rcases h with ⟨h, _⟩ | ⟨y, hy, h⟩
  · cases h
  · injection hy with hy
    rw [hy]
    exact h
theorem FI_other {F : Fd} {ps : List Pl} {i : Nat} {ds : List Bytes} {m : Nat} {p : Pl} {r : List Pl} (h : FI F ps i ds m none) (hp : ps.drop i = p :: r) (hne : p.2 ≠ m) : F = ⟨ds, m, none, ps.drop i⟩ := by
  rcases h with ⟨_, h⟩ | ⟨y, hy, _⟩
  · rw [h, hp, goF, if_neg hne]
    simp
  · cases hy
theorem FI_end {F : Fd} {ps : List Pl} {i : Nat} {ds : List Bytes} {m : Nat} (h : FI F ps i ds m none) (hi : ps.length ≤ i) : F = ⟨ds, m, none, []⟩ := by
  rcases h with ⟨_, h⟩ | ⟨y, hy, _⟩
  · rw [h, List.drop_eq_nil_of_le hi, goF]
    simp
  · cases hy
theorem FI_step {F : Fd} {ps : List Pl} {i : Nat} {ds : List Bytes} {m : Nat} {p : Pl} (h : FI F ps i ds m none) (hp : ps.drop i = p :: ps.drop (i + 1)) (he : p.2 = m) :
    FI F ps (i + 1) (ds ++ (readB SU (byt p.1.f1) m).1) (m + (readB SU (byt p.1.f1) m).1.length) (if (readB SU (byt p.1.f1) m).2 < p.1.f1.size then some (p, (readB SU (byt p.1.f1) m).2) else none) := by
  rcases h with ⟨_, h⟩ | ⟨y, hy, _⟩
  · rw [hp, goF, if_pos he] at h
    by_cases hc : (readB SU (byt p.1.f1) m).2 < p.1.f1.size
    · rw [if_pos hc] at h ⊢
      exact .inr ⟨_, rfl, h⟩
    · rw [if_neg hc] at h ⊢
      refine .inl ⟨rfl, ?_⟩
      rw [h, List.append_assoc]
  · cases hy
end Go.Proofs.YtanonhipicoigaaGreatDoor.SegP
namespace Go.Proofs.YtanonhipicoigaaGreatDoor.U
open Go.RowKit Go.Proofs.YtanonhipicoigaaGreatDoorW.PrintWords Go.Proofs.YtanonhipicoigaaGreatDoorW.PrintLast Go.Proofs.YtanonhipicoigaaGreatDoorW.PrintMore Go.Proofs.YtanonhipicoigaaGreatDoor.Sp Go.Proofs.YtanonhipicoigaaGreatDoor.SegP
set_option linter.unusedVariables false
set_option linter.unusedSimpArgs false
attribute [local go_sem] Oper.semAt_some
def firstN (ps : List Pl) : Nat := match ps with | [] => 1 | p :: _ => p.2
def tornName (t : Option (Pl × Nat)) : ByteArray := match t with | none => ⟨#[]⟩ | some x => x.1.1.f0
def tornAt (t : Option (Pl × Nat)) : Int := match t with | none => 0 | some x => (x.2 : Int)
theorem arr_fn {T : Array Value} {n : Nat} (h : T.size = n) : T = Array.ofFn (n := n) fun i => T.getD i.1 undef := by
  apply Array.ext
  · simp [h]
  · intro i h1 h2
    simp [h1]
theorem places_size {l : List S67} {ps : List Pl} {p : Pl} (h : rightF l = true) (hps : ps = placesF l) (hp : p ∈ ps) : p.1.f1.size ≤ 262144 ∧ p.2 ≤ most ∧ p.1.f0.toList ≠ [] := by
  subst hps
  obtain ⟨f, hf, he⟩ := List.mem_filterMap.1 hp
  cases hn : numOf f.f0 with
  | none => rw [hn] at he; cases he
  | some n =>
    rw [hn] at he
    injection he with he
    subst he
    have h1 := numOf_iff.1 hn
    refine ⟨(((right_iff l).1 h).2.1 f hf).2.1, h1.1, fun e => ?_⟩
    have e2 : byt f.f0 = [] := by
      rw [ByteArray.toList_eq] at e
      exact e
    have h2 := congrArg List.length h1.2
    rw [e2, hexN_length] at h2
    cases h2
theorem framesL_len (S : Sum) : ∀ (n : Nat) (ds : List Bytes), ds.length ≤ (framesL S n ds).length
  | n, [] => Nat.le_refl _
  | n, d :: r => by
    have h := framesL_len S (n + 1) r
    rw [framesL, List.length_append, frame_length, List.length_cons]
    omega
theorem read_len (s : ByteArray) (n : Nat) : (readB SU (byt s) n).1.length ≤ s.size := by
  obtain ⟨r, h1, h2, _⟩ := readB_spec SU _ (byt s) n (Nat.le_refl _)
  have h3 := framesL_len SU n (readB SU (byt s) n).1
  have h4 := congrArg List.length h1
  rw [byt_length, List.length_append] at h4
  omega
theorem read_le (s : ByteArray) (n : Nat) : (readB SU (byt s) n).2 ≤ s.size := by
  obtain ⟨r, h1, h2, _⟩ := readB_spec SU _ (byt s) n (Nat.le_refl _)
  have h4 := congrArg List.length h1
  rw [byt_length, List.length_append] at h4
  omega
theorem recs_len (s : ByteArray) (a n : Nat) (ha : a = 0 := by rfl) : (recsAt s a n).length ≤ s.size := by
  subst ha
  rw [recsAt, recsL_length, List.drop_zero]
  exact read_len s n
theorem drop_get2 {ps : List Pl} {i : Nat} {p : Pl} (h : ps[i]? = some p) : ps.drop i = p :: ps.drop (i + 1) := by
  obtain ⟨hi, h⟩ := List.getElem?_eq_some_iff.1 h
  rw [List.drop_eq_getElem_cons hi, h]
theorem C139_drop {w : World} {ad : Addr} {n i : Nat} {ps : List Pl} (h : Kd.C k139 w (some ad) n ps) (hi : i ≤ n) : Kd.C k139 w (some (ad.add (i * 4))) (n - i) (ps.drop i) := by
  obtain ⟨h1, h2, h3⟩ := h
  refine ⟨by rw [List.length_drop, h1], by omega, fun hlt => ⟨_, rfl, fun j p hj => ?_⟩⟩
  obtain ⟨ad2, e, h4⟩ := h3 (by omega)
  injection e with e
  subst e
  rw [List.getElem?_drop] at hj
  obtain ⟨c, a, b, d⟩ := h4 (i + j) p hj
  refine ⟨c, a, b, fun k u hk => ?_⟩
  have e := d k u hk
  rw [Go.Deep.add_add, ← e]
  have hs : k139.sz = 4 := rfl
  rw [hs, show i * 4 + (j * 4 + k) = (i + j) * 4 + k by omega]
theorem info129 : (Tryz.prog.info? 129).map (fun i => i.size) = some 6 := by kernel_rfl
theorem goF_torn {S : Sum} : ∀ {ps : List Pl} {n : Nat} {x : Pl × Nat}, (goF S ps n).torn = some x → x.1 ∈ ps := by
  intro ps n x h
  obtain ⟨kept, ds, m, hc, hh⟩ := goF_spec S ps n
  rcases hh with ⟨a1, _⟩ | ⟨p, e, dt, a1, a2, _⟩
  · rw [h] at a1; cases a1
  · rw [h] at a1
    injection a1 with a1
    rw [a1, a2]
    simp
theorem find_fin {w wd : World} {F : SegP.Fd} {n0 : Nat} {ps : List Pl} {gz : Nat} {A1 Aq A2 : Option Addr} {c1 cq c2 : Nat} {T : Array Value} {mk : List Nat} (hT : T.getD 2 undef = .pointer (some ⟨gz, 0, none⟩))
    (H : Sep w wd (box gz [.slice A1 (recR F.recs n0).length c1, .int .u64 (n0 : Int), .int .u64 (F.next : Int), .string (tornName F.torn), .int .i64 (tornAt F.torn), .slice A2 F.gone.length c2] 129 :: row k62 62 (.slice A1 (recR F.recs n0).length c1) (recR F.recs n0) :: row k139 139 (.slice Aq ps.length cq) ps :: marks mk))
    (hC : ∀ w', Kd.C k139 w' Aq ps.length ps → Kd.C k139 w' A2 F.gone.length F.gone) (h2 : F.gone.length ≤ c2) : bodyPostM Fence.wide 0 Tryz.prog Tryz.f68 (fun e w' => ∃ A1 c1 A2 c2 Aq cq, e = .returned (.agg #[.slice A1 (recR F.recs n0).length c1, .int .u64 (n0 : Int), .int .u64 (F.next : Int), .string (tornName F.torn), .int .i64 (tornAt F.torn), .slice A2 F.gone.length c2])
      ∧ Aside0 (Sep w w' [row k62 62 (.slice A1 (recR F.recs n0).length c1) (recR F.recs n0), row k139 139 (.slice Aq ps.length cq) ps])
      ∧ (∀ W, Kd.C k139 W Aq ps.length ps → Kd.C k139 W A2 F.gone.length F.gone) ∧ F.gone.length ≤ c2) .ret { tmps := T, defers := mk.map markOf } wd := by
  refine leaves_marks (rs := [_, _, _]) mk _ ⟨H⟩ ?_
  intro w' H
  refine ⟨_, results_single (r := .cell 2 129) rfl (.cell gz 129 _ _ _ hT (H.out.box_ mem0) Tryz.underlying129 rfl info129 .nil), A1, c1, A2, c2, Aq, cq, rfl, ⟨H.out.drop0⟩, hC, h2⟩
theorem frame_open68 {T : Array Value} {x2 x3 x4 x26 x27 x28 : Value} (h : T.size = 80) (h2 : T[2]? = some x2) (h3 : T[3]? = some x3) (h4 : T[4]? = some x4) (h26 : T[26]? = some x26) (h27 : T[27]? = some x27) (h28 : T[28]? = some x28) : ∃ u : Nat → Value, T = #[u 0, u 1, x2, x3, x4, u 5, u 6, u 7, u 8, u 9, u 10, u 11, u 12, u 13, u 14, u 15, u 16, u 17, u 18, u 19, u 20, u 21, u 22, u 23, u 24, u 25, x26, x27, x28, u 29, u 30, u 31, u 32, u 33, u 34, u 35, u 36, u 37, u 38, u 39, u 40, u 41, u 42, u 43, u 44, u 45, u 46, u 47, u 48, u 49, u 50, u 51, u 52, u 53, u 54, u 55, u 56, u 57, u 58, u 59, u 60, u 61, u 62, u 63, u 64, u 65, u 66, u 67, u 68, u 69, u 70, u 71, u 72, u 73, u 74, u 75, u 76, u 77, u 78, u 79] := by
  obtain rfl : x2 = T.getD 2 undef := by simp [h2]
  obtain rfl : x3 = T.getD 3 undef := by simp [h3]
  obtain rfl : x4 = T.getD 4 undef := by simp [h4]
  obtain rfl : x26 = T.getD 26 undef := by simp [h26]
  obtain rfl : x27 = T.getD 27 undef := by simp [h27]
  obtain rfl : x28 = T.getD 28 undef := by simp [h28]
  exact ⟨fun k => T.getD k undef, (arr_fn h).trans (by kernel_rfl)⟩
theorem frame_open68b {T : Array Value} {x3 x7 x8 x9 : Value} (h : T.size = 80) (h3 : T[3]? = some x3) (h7 : T[7]? = some x7) (h8 : T[8]? = some x8) (h9 : T[9]? = some x9) : ∃ u : Nat → Value, T = #[u 0, u 1, u 2, x3, u 4, u 5, u 6, x7, x8, x9, u 10, u 11, u 12, u 13, u 14, u 15, u 16, u 17, u 18, u 19, u 20, u 21, u 22, u 23, u 24, u 25, u 26, u 27, u 28, u 29, u 30, u 31, u 32, u 33, u 34, u 35, u 36, u 37, u 38, u 39, u 40, u 41, u 42, u 43, u 44, u 45, u 46, u 47, u 48, u 49, u 50, u 51, u 52, u 53, u 54, u 55, u 56, u 57, u 58, u 59, u 60, u 61, u 62, u 63, u 64, u 65, u 66, u 67, u 68, u 69, u 70, u 71, u 72, u 73, u 74, u 75, u 76, u 77, u 78, u 79] := by
  obtain rfl : x3 = T.getD 3 undef := by simp [h3]
  obtain rfl : x7 = T.getD 7 undef := by simp [h7]
  obtain rfl : x8 = T.getD 8 undef := by simp [h8]
  obtain rfl : x9 = T.getD 9 undef := by simp [h9]
  exact ⟨fun k => T.getD k undef, (arr_fn h).trans (by kernel_rfl)⟩
set_option maxHeartbeats 8000000 in
set_option maxRecDepth 100000 in
theorem find_any (A : Option Addr) (c : Nat) (l : List S67) (dn : Bool) (fu fa : Int) (w : World) (hr : Kd.C k67 w A l.length l) (hc : l.length ≤ c) (hok : rightF l = true) (hG : Gl w) :
    Calls Tryz.prog 68 #[.agg #[.slice A l.length c, .bool dn, .int .i64 fu, .int .i64 fa]] w fun e w' => ∃ A1 c1 A2 c2 Aq cq, e = .returned (.agg #[.slice A1 (recR (goF SU (placesF l) (firstN (placesF l))).recs (firstN (placesF l))).length c1, .int .u64 ((firstN (placesF l)) : Int), .int .u64 ((goF SU (placesF l) (firstN (placesF l))).next : Int), .string (tornName (goF SU (placesF l) (firstN (placesF l))).torn), .int .i64 (tornAt (goF SU (placesF l) (firstN (placesF l))).torn), .slice A2 (goF SU (placesF l) (firstN (placesF l))).gone.length c2])
      ∧ Aside0 (Sep w w' [row k62 62 (.slice A1 (recR (goF SU (placesF l) (firstN (placesF l))).recs (firstN (placesF l))).length c1) (recR (goF SU (placesF l) (firstN (placesF l))).recs (firstN (placesF l))), row k139 139 (.slice Aq (placesF l).length cq) (placesF l)])
      ∧ (∀ W, Kd.C k139 W Aq (placesF l).length (placesF l) → Kd.C k139 W A2 (goF SU (placesF l) (firstN (placesF l))).gone.length (goF SU (placesF l) (firstN (placesF l))).gone) ∧ (goF SU (placesF l) (firstN (placesF l))).gone.length ≤ c2 := by
  have HRp := Aside0.mk hr
  have HCp := Aside0.mk hc
  have HOK := Aside0.mk hok
  have HG := Aside0.mk hG
  have hlen : l.length ≤ 64 := right_len hok
  have HNM := Aside0.mk (fun x (hx : x ∈ l) => (show x.f0.size ≤ 65536 by have := ((right_iff l).1 hok).2.1 x hx; have h2 : x.f0.size ≤ 4096 := this.1; omega))
  clear hr hc hok hG
  obtain ⟨ps, hps⟩ : ∃ ps, ps = placesF l := ⟨_, rfl⟩
  rw [← hps]
  have HPS := Aside0.mk hps
  have hpl : ps.length ≤ 64 := by rw [hps]; have := places_len l; omega
  clear hps
  obtain ⟨n0, hn0⟩ : ∃ n0, n0 = firstN ps := ⟨_, rfl⟩
  rw [← hn0]
  have HN0 := Aside0.mk hn0
  clear hn0
  obtain ⟨F, hF⟩ : ∃ F, F = goF SU ps n0 := ⟨_, rfl⟩
  rw [← hF]
  have HF := Aside0.mk hF
  clear hF
  have H := Aside0.mk (Sep.start w)
  have PA := Aside0.mk (fun A c w hr hc hG => HPS.out ▸ places_any A c l dn fu fa w hr hc hlen HNM.out hG)
  refine callsIn_wide.1 (callsIn_of_wp_marks (n := 0) Tryz.func68 rfl trivial (wpIn_wide.2 ?_))
  simp only [List.size_toArray, List.length_cons, List.length_nil, Tryz.ntmps68, Nat.reduceAdd, Nat.reduceSub, Array.replicate_succ, Array.replicate_zero, List.push_toArray, List.append_toArray, List.nil_append, List.cons_append]
  go_wp2_with (first
 | ((with_reducible refine gate_dst (N := 1) rfl ?_);
    refine new_box rfl H (cs := [.slice A l.length c, .bool dn, .int .i64 fu, .int .i64 fa]) (t := 27) ?hr ?_;
    (case hr => first | (go_simp; done) | (go_simp; rfl));
    intro gd wd1 n_;
    simp only [Act.put, List.setIfInBounds_toArray, List.set_cons_zero, List.set_cons_succ];
    clear H;
    have H := n_;
    clear n_;
    have c_d := H.out.cell (g := gd) mem0;
    have z_d := H.out.frozen (g := gd) mem0)
 | ((with_reducible refine gate_dst (N := 2) rfl ?_);
    refine new_box rfl H (cs := [.slice none 0 0, .int .u64 0, .int .u64 0, .string ⟨#[]⟩, .int .i64 0, .slice none 0 0]) (t := 129) ?hr ?_;
    (case hr => first | (go_simp; done) | (go_simp; rfl));
    intro gz wd2 n_;
    simp only [Act.put, List.setIfInBounds_toArray, List.set_cons_zero, List.set_cons_succ];
    clear H c_d z_d;
    have H := n_;
    clear n_;
    have c_z := H.out.cell (g := gz) mem0;
    have z_z := H.out.frozen (g := gz) mem0;
    have c_d := H.out.cell (g := gd) mem1;
    have z_d := H.out.frozen (g := gd) mem1)
 | ((with_reducible refine gate_dst (N := 3) rfl ?_);
    refine new_box rfl H (cs := [.slice none 0 0, .int .u64 0, .int .u64 0, .string ⟨#[]⟩, .int .i64 0, .slice none 0 0]) (t := 129) ?hr ?_;
    (case hr => first | (go_simp; done) | (go_simp; rfl));
    intro gx wd3 n_;
    simp only [Act.put, List.setIfInBounds_toArray, List.set_cons_zero, List.set_cons_succ];
    clear H c_z z_z c_d z_d;
    have H := n_;
    clear n_;
    have c_x := H.out.cell (g := gx) mem0;
    have z_x := H.out.frozen (g := gx) mem0;
    have c_z := H.out.cell (g := gz) mem1;
    have z_z := H.out.frozen (g := gz) mem1;
    have c_d := H.out.cell (g := gd) mem2;
    have z_d := H.out.frozen (g := gd) mem2)
 | ((with_reducible refine gate_store (t := 129) (p := 3) rfl ?_);
    refine put_box (rs1 := [box gx [.slice none 0 0, .int .u64 1, .int .u64 1, .string ⟨#[]⟩, .int .i64 0, .slice none 0 0] 129, box gz [.slice none 0 0, .int .u64 0, .int .u64 0, .string ⟨#[]⟩, .int .i64 0, .slice none 0 0] 129, box gd [.slice A l.length c, .bool dn, .int .i64 fu, .int .i64 fa] 27]) rfl (t := 129) (p := 3) rfl rfl ?hr (H1 := (Sep.set0 (Sep.set0 (Sep.set0 (Sep.set0 (Sep.set0 (Sep.set0 H.out 0 (.slice none 0 0) rfl) 1 (.int .u64 1) rfl) 2 (.int .u64 1) rfl) 3 (.string ⟨#[]⟩) rfl) 4 (.int .i64 0) rfl) 5 (.slice none 0 0) rfl)) ?_;
    (case hr => first | (go_simp; done) | (go_simp; rfl));
    intro wd4 n_;
    clear H c_x z_x c_z z_z c_d z_d;
    have H := n_;
    clear n_;
    have c_x := H.out.cell (g := gx) mem0;
    have z_x := H.out.frozen (g := gx) mem0;
    have c_z := H.out.cell (g := gz) mem1;
    have z_z := H.out.frozen (g := gz) mem1;
    have c_d := H.out.cell (g := gd) mem2;
    have z_d := H.out.frozen (g := gd) mem2)
 | fail)
  refine ((PA.out A c _ (H.out.came HRp.out) HCp.out (HG.out.below H.out.below)).mono ?_)
  rintro e wd5 ⟨v_, rfl, ho_, hb_⟩
  obtain ⟨Aq, cq, eo_⟩ := Kd.R_slice ho_
  subst eo_
  have n_ : Aside0 (Sep w wd5 [row k139 139 (.slice Aq (ps).length cq) ps, box gx [.slice none 0 0, .int .u64 1, .int .u64 1, .string ⟨#[]⟩, .int .i64 0, .slice none 0 0] 129, box gz [.slice none 0 0, .int .u64 0, .int .u64 0, .string ⟨#[]⟩, .int .i64 0, .slice none 0 0] 129, box gd [.slice A l.length c, .bool dn, .int .i64 fu, .int .i64 fa] 27]) := ⟨Sep.push_row H.out hb_ ho_ k139_flat⟩
  clear H c_x z_x c_z z_z c_d z_d
  have H := n_
  clear n_
  have c_x := H.out.cell (g := gx) mem1
  have z_x := H.out.frozen (g := gx) mem1
  have c_z := H.out.cell (g := gz) mem2
  have z_z := H.out.frozen (g := gz) mem2
  have c_d := H.out.cell (g := gd) mem3
  have z_d := H.out.frozen (g := gd) mem3
  clear ho_ hb_
  by_cases hz : ps.length = 0
  ·
    have hp0 : ps = [] := List.length_eq_zero_iff.1 hz
    have hn1 : n0 = 1 := by rw [HN0.out, hp0]; rfl
    have HFE : Aside0 (F = ⟨[], n0, none, []⟩) := ⟨by rw [HF.out, hp0]; rfl⟩
    have hz1 : ¬ (0 : Int) < (ps.length : Int) := by omega
    clear hz hp0
    rw [show (1 : Int) = (n0 : Int) by omega] at H
    clear hn1
    clear c_x z_x c_z z_z c_d z_d
    have c_x := H.out.cell (g := gx) mem1
    have c_z := H.out.cell (g := gz) mem2
    have z_z := H.out.frozen (g := gz) mem2
    have c_d := H.out.cell (g := gd) mem3
    go_wp2_with fail
    refine wp_loop (fun a' w' => a' = _ ∧ w' = _) (fun _ _ => 0) ⟨rfl, rfl⟩ ?_
    rintro a' w' ⟨rfl, rfl⟩
    go_wp2_with (first
 | ((with_reducible refine gate_store (t := 129) (p := 2) rfl ?_);
    refine put_box (rs1 := [row k139 139 (.slice Aq (ps).length cq) ps, box gx [.slice none 0 0, .int .u64 (n0 : Int), .int .u64 (n0 : Int), .string ⟨#[]⟩, .int .i64 0, .slice none 0 0] 129, box gz [.slice none 0 0, .int .u64 (n0 : Int), .int .u64 (n0 : Int), .string ⟨#[]⟩, .int .i64 0, .slice none 0 0] 129, box gd [.slice A l.length c, .bool dn, .int .i64 fu, .int .i64 fa] 27]) rfl (t := 129) (p := 2) rfl rfl ?hr (H1 := (Sep.set2 (Sep.set2 (Sep.set2 (Sep.set2 (Sep.set2 (Sep.set2 H.out 0 (.slice none 0 0) rfl) 1 (.int .u64 (n0 : Int)) rfl) 2 (.int .u64 (n0 : Int)) rfl) 3 (.string ⟨#[]⟩) rfl) 4 (.int .i64 0) rfl) 5 (.slice none 0 0) rfl)) ?_;
    (case hr => first | (go_simp; done) | (go_simp; rfl));
    intro wd6 n_;
    clear H c_x c_z z_z c_d;
    have H := n_;
    clear n_;
    have c_x := H.out.cell (g := gx) mem1;
    have c_z := H.out.cell (g := gz) mem2;
    have z_z := H.out.frozen (g := gz) mem2;
    have c_d := H.out.cell (g := gd) mem3)
 | fail)
    obtain rfl := HFE.out
    exact find_fin (mk := []) (A1 := none) (c1 := 0) (A2 := none) (c2 := 0) (ps := ps) rfl (Sep.front2 (Sep.front1 (Sep.front1 (Sep.drop2 (Sep.drop4 (Sep.push_nil H.out)))))) (fun w' h => Kd.C_nil _ _) (Nat.le_refl _)
  ·
    obtain ⟨p, hp⟩ : ∃ p, ps[0]? = some p := ⟨_, List.getElem?_eq_getElem (by omega)⟩
    have hn1 : n0 = p.2 := by
      rw [HN0.out]
      cases ps with
      | nil => simp at hz
      | cons p2 r =>
        simp at hp
        rw [← hp]
        rfl
    have HN1 := Aside0.mk hn1
    clear hn1
    obtain ⟨aq, e1⟩ := row139 (H.out.reads mem0).2.2 (by omega)
    subst e1
    obtain ⟨h0, h1, h2, h3⟩ := at139 (H.out.reads mem0).2.2 hp
    have ea : aq.add 0 = aq := by simp [Addr.add]
    simp only [Nat.zero_mul, ea] at h0 h1 h2 h3
    clear hp ea
    have hq0 : (0 : Int) < (ps.length : Int) := by omega
    go_upto_region 4 with fail
    go_region
    refine gen_k (rs := [row k139 139 (.slice (some aq) (ps).length cq) ps, box gx [.slice none 0 0, .int .u64 (p.2 : Int), .int .u64 (p.2 : Int), .string ⟨#[]⟩, .int .i64 0, .slice none 0 0] 129, box gz [.slice none 0 0, .int .u64 0, .int .u64 0, .string ⟨#[]⟩, .int .i64 0, .slice none 0 0] 129, box gd [.slice A l.length c, .bool dn, .int .i64 fu, .int .i64 fa] 27]) (Sep.drew (Sep.set1 (Sep.set1 H.out 1 (.int .u64 (p.2 : Int)) rfl) 2 (.int .u64 (p.2 : Int)) rfl)) ?_
    intro wd7 n_
    have n1_ : Aside0 (Sep w wd7 [row k139 139 (.slice (some aq) (ps).length cq) ps, box gx [.slice none 0 0, .int .u64 (n0 : Int), .int .u64 (n0 : Int), .string ⟨#[]⟩, .int .i64 0, .slice none 0 0] 129, box gz [.slice none 0 0, .int .u64 0, .int .u64 0, .string ⟨#[]⟩, .int .i64 0, .slice none 0 0] 129, box gd [.slice A l.length c, .bool dn, .int .i64 fu, .int .i64 fa] 27]) := by rw [HN1.out]; exact n_
    clear n_ h0 h1 h2 h3
    have n_ := n1_
    clear n1_
    clear H c_x z_x c_z z_z c_d z_d
    have H := n_
    clear n_
    have c_x := H.out.cell (g := gx) mem1
    have z_x := H.out.frozen (g := gx) mem1
    have c_z := H.out.cell (g := gz) mem2
    have z_z := H.out.frozen (g := gz) mem2
    have c_d := H.out.cell (g := gd) mem3
    have z_d := H.out.frozen (g := gd) mem3
    go_wp2_with fail
    refine wp_loop (fun a wr => ∃ (T : Array Value) (i : Nat) (ds : List Bytes) (m : Nat) (t : Option (Pl × Nat)) (mk : List Nat) (A1 : Option Addr) (c1 : Nat), a = { tmps := T, defers := mk.map markOf } ∧ T.size = 80 ∧ T[2]? = some (.pointer (some ⟨gz, 0, none⟩)) ∧ T[3]? = some (.pointer (some ⟨gx, 0, none⟩)) ∧ T[4]? = some (.slice (some aq) ps.length cq) ∧ T[26]? = some (.slice (some aq) ps.length cq) ∧ T[27]? = some (.int .i64 (ps.length : Int)) ∧ T[28]? = some (.int .i64 (i : Int)) ∧ i ≤ ps.length ∧ ds.length ≤ i * 262144 ∧ Aside0 (m = n0 + ds.length) ∧ Aside0 (FI F ps i ds m t) ∧ Aside0 (Sep w wr (box gx [.slice A1 (recR ds n0).length c1, .int .u64 (n0 : Int), .int .u64 (m : Int), .string (tornName t), .int .i64 (tornAt t), .slice none 0 0] 129 :: row k62 62 (.slice A1 (recR ds n0).length c1) (recR ds n0) :: box gz [.slice none 0 0, .int .u64 0, .int .u64 0, .string ⟨#[]⟩, .int .i64 0, .slice none 0 0] 129 :: row k139 139 (.slice (some aq) ps.length cq) ps :: marks mk))) (fun a _ => ps.length - (intOf (a.tmps.getD 28 undef)).toNat) ?_ ?_
    · refine ⟨_, 0, [], n0, none, [], none, 0, rfl, rfl, rfl, rfl, rfl, rfl, rfl, rfl, by omega, by simp, ⟨by simp⟩, ⟨by rw [HF.out]; exact FI_start _ _⟩, ⟨?_⟩⟩
      exact (Sep.front3 (Sep.front2 (Sep.front3 (Sep.front1 (Sep.drop4 (Sep.push_nil H.out))))))
    · clear H c_x z_x c_z z_z c_d z_d
      rintro a wr ⟨T, i, ds, m, t, mk, A1, c1, rfl, hT, k2, k3, k4, k26, k27, k28, hi, hdl, HM, HFI, H⟩
      obtain ⟨u, hTu⟩ := frame_open68 hT k2 k3 k4 k26 k27 k28
      subst hTu
      clear hT k2 k3 k4 k26 k27 k28
      by_cases hil : i < ps.length
      ·
        obtain ⟨p2, hp2⟩ : ∃ p2, ps[i]? = some p2 := ⟨_, List.getElem?_eq_getElem hil⟩
        have c_x := H.out.cell (g := gx) mem0
        have z_x := H.out.frozen (g := gx) mem0
        obtain ⟨h0, h1, h2, h3⟩ := at139 (H.out.reads mem3).2.2 hp2
        have HSZ := Aside0.mk (places_size HOK.out HPS.out (List.mem_of_getElem? hp2)).1
        have HPM := Aside0.mk (places_size HOK.out HPS.out (List.mem_of_getElem? hp2)).2.1
        have hi0 : (0 : Int) ≤ (i : Int) := by omega
        have hi1 : (i : Int) < (ps.length : Int) := by omega
        clear c_x z_x
        have c_x := H.out.cell (g := gx) mem0
        have z_x := H.out.frozen (g := gx) mem0
        have c_z := H.out.cell (g := gz) mem2
        cases t with
        | none =>
          have H2 : Aside0 (Sep w wr (box gx [.slice A1 (recR ds n0).length c1, .int .u64 (n0 : Int), .int .u64 (m : Int), .string ⟨#[]⟩, .int .i64 0, .slice none 0 0] 129 :: row k62 62 (.slice A1 (recR ds n0).length c1) (recR ds n0) :: box gz [.slice none 0 0, .int .u64 0, .int .u64 0, .string ⟨#[]⟩, .int .i64 0, .slice none 0 0] 129 :: row k139 139 (.slice (some aq) (ps).length cq) ps :: marks mk)) := H
          clear H c_x z_x c_z
          have H := H2
          clear H2
          have c_x := H.out.cell (g := gx) mem0
          have z_x := H.out.frozen (g := gx) mem0
          have c_z := H.out.cell (g := gz) mem2
          by_cases hne : p2.2 = m
          ·
            subst hne
            go_wp2_with (first
 | ((with_reducible refine gate_dst (N := 6) rfl ?_);
    refine new_box rfl H (cs := [.string ⟨#[]⟩, .string ⟨#[]⟩, .int .i64 0, .int .u64 0]) (t := 139) ?hr ?_;
    (case hr => first | (go_simp; done) | (go_simp; rfl));
    intro gp wd8 n_;
    simp only [Act.put, List.setIfInBounds_toArray, List.set_cons_zero, List.set_cons_succ];
    clear H c_x z_x c_z;
    have H := n_;
    clear n_;
    have c_p := H.out.cell (g := gp) mem0;
    have z_p := H.out.frozen (g := gp) mem0;
    have c_x := H.out.cell (g := gx) mem1;
    have z_x := H.out.frozen (g := gx) mem1;
    have c_z := H.out.cell (g := gz) mem3)
 | ((with_reducible refine gate_store (t := 139) (p := 6) rfl ?_);
    refine put_box (rs1 := (box gp [.string p2.1.f0, .string p2.1.f1, .int .i64 p2.1.f2, .int .u64 (p2.2 : Int)] 139 :: box gx [.slice A1 (recR ds n0).length c1, .int .u64 (n0 : Int), .int .u64 (p2.2 : Int), .string ⟨#[]⟩, .int .i64 0, .slice none 0 0] 129 :: row k62 62 (.slice A1 (recR ds n0).length c1) (recR ds n0) :: box gz [.slice none 0 0, .int .u64 0, .int .u64 0, .string ⟨#[]⟩, .int .i64 0, .slice none 0 0] 129 :: row k139 139 (.slice (some aq) (ps).length cq) ps :: marks mk)) rfl (t := 139) (p := 6) rfl rfl ?hr (H1 := (Sep.set0 (Sep.set0 (Sep.set0 (Sep.set0 H.out 0 (.string p2.1.f0) rfl) 1 (.string p2.1.f1) rfl) 2 (.int .i64 p2.1.f2) rfl) 3 (.int .u64 (p2.2 : Int)) rfl)) ?_;
    (case hr => first | (go_simp; done) | (go_simp; rfl));
    intro wd9 n_;
    clear H c_p z_p c_x z_x c_z;
    have H := n_;
    clear n_;
    have c_p := H.out.cell (g := gp) mem0;
    have z_p := H.out.frozen (g := gp) mem0;
    have c_x := H.out.cell (g := gx) mem1;
    have z_x := H.out.frozen (g := gx) mem1;
    have c_z := H.out.cell (g := gz) mem3;
    clear h0 h1 h2 h3)
 | ((with_reducible refine gate_dst (N := 7) rfl ?_);
    refine new_box rfl H (cs := [.int .i64 0]) (t := 3) ?hr ?_;
    (case hr => first | (go_simp; done) | (go_simp; rfl));
    intro ge wd10 n_;
    simp only [Act.put, List.setIfInBounds_toArray, List.set_cons_zero, List.set_cons_succ];
    clear H c_p z_p c_x z_x c_z;
    have H := n_;
    clear n_;
    have c_e := H.out.cell (g := ge) mem0;
    have z_e := H.out.frozen (g := ge) mem0;
    have c_p := H.out.cell (g := gp) mem1;
    have z_p := H.out.frozen (g := gp) mem1;
    have c_x := H.out.cell (g := gx) mem2;
    have z_x := H.out.frozen (g := gx) mem2;
    have c_z := H.out.cell (g := gz) mem4)
 | ((with_reducible refine gate_store (t := 3) (p := 7) rfl ?_);
    refine put_box (rs1 := (box ge [.int .i64 0] 3 :: box gp [.string p2.1.f0, .string p2.1.f1, .int .i64 p2.1.f2, .int .u64 (p2.2 : Int)] 139 :: box gx [.slice A1 (recR ds n0).length c1, .int .u64 (n0 : Int), .int .u64 (p2.2 : Int), .string ⟨#[]⟩, .int .i64 0, .slice none 0 0] 129 :: row k62 62 (.slice A1 (recR ds n0).length c1) (recR ds n0) :: box gz [.slice none 0 0, .int .u64 0, .int .u64 0, .string ⟨#[]⟩, .int .i64 0, .slice none 0 0] 129 :: row k139 139 (.slice (some aq) (ps).length cq) ps :: marks mk)) rfl (t := 3) (p := 7) rfl rfl ?hr (H1 := (Sep.set0 H.out 0 (.int .i64 0) rfl)) ?_;
    (case hr => first | (go_simp; done) | (go_simp; rfl));
    intro wd11 n_;
    clear H c_e z_e c_p z_p c_x z_x c_z;
    have H := n_;
    clear n_;
    have c_e := H.out.cell (g := ge) mem0;
    have z_e := H.out.frozen (g := ge) mem0;
    have c_p := H.out.cell (g := gp) mem1;
    have z_p := H.out.frozen (g := gp) mem1;
    have c_x := H.out.cell (g := gx) mem2;
    have z_x := H.out.frozen (g := gx) mem2;
    have c_z := H.out.cell (g := gz) mem4)
 | fail)
            refine ((frames_any w wd11 _ _ _ H).mono ?_)
            rintro e_ wd12 ⟨gs, gq, rfl, n_⟩
            clear c_e z_e c_p z_p c_x z_x c_z H
            have H := n_
            clear n_
            go_wp2_with fail
            have HIT := Aside0.mk (iter_ok w p2.1.f1 p2.2 gs gq HSZ.out HPM.out)
            obtain ⟨xs, hxs⟩ : ∃ xs, xs = recsAt p2.1.f1 0 p2.2 := ⟨_, rfl⟩
            rw [← hxs] at HIT
            have HXS := Aside0.mk hxs
            clear hxs
            refine range_sep (b := w) (gf := 159) (lb := #[.pointer (some ⟨gs, 0, none⟩), .pointer (some ⟨gq, 0, none⟩)]) encR xs (ownR gs gq p2.1.f1 p2.2) (fun pre rs => ∃ A2 c2, rs = (box ge [.int .i64 (endOf 0 pre : Int)] 3 :: box gp [.string p2.1.f0, .string p2.1.f1, .int .i64 p2.1.f2, .int .u64 (p2.2 : Int)] 139 :: box gx [.slice A2 (recR ds n0 ++ pre.map toRec).length c2, .int .u64 (n0 : Int), .int .u64 ((p2.2 + pre.length : Nat) : Int), .string ⟨#[]⟩, .int .i64 0, .slice none 0 0] 129 :: row k62 62 (.slice A2 (recR ds n0 ++ pre.map toRec).length c2) (recR ds n0 ++ pre.map toRec) :: box gz [.slice none 0 0, .int .u64 0, .int .u64 0, .string ⟨#[]⟩, .int .i64 0, .slice none 0 0] 129 :: row k139 139 (.slice (some aq) ps.length cq) ps :: marks mk))
              (fun pre x a1 ms => ∃ (T : Array Value) (gr : Nat) (A2 : Option Addr) (c2 : Nat), a1 = { tmps := T, defers := [] } ∧ T.size = 80 ∧ T[3]? = some (.pointer (some ⟨gx, 0, none⟩)) ∧ T[7]? = some (.pointer (some ⟨ge, 0, none⟩)) ∧ T[8]? = some (.int .i64 (x.1 : Int)) ∧ T[9]? = some (.pointer (some ⟨gr, 0, none⟩)) ∧ ms = box gr [.int .u64 (x.2.1 : Int), .string x.2.2] 62 :: (box ge [.int .i64 (endOf 0 pre : Int)] 3 :: box gp [.string p2.1.f0, .string p2.1.f1, .int .i64 p2.1.f2, .int .u64 (p2.2 : Int)] 139 :: box gx [.slice A2 (recR ds n0 ++ pre.map toRec).length c2, .int .u64 (n0 : Int), .int .u64 ((p2.2 + pre.length : Nat) : Int), .string ⟨#[]⟩, .int .i64 0, .slice none 0 0] 129 :: row k62 62 (.slice A2 (recR ds n0 ++ pre.map toRec).length c2) (recR ds n0 ++ pre.map toRec) :: box gz [.slice none 0 0, .int .u64 0, .int .u64 0, .string ⟨#[]⟩, .int .i64 0, .slice none 0 0] 129 :: row k139 139 (.slice (some aq) ps.length cq) ps :: marks mk)) (box ge [.int .i64 0] 3 :: box gp [.string p2.1.f0, .string p2.1.f1, .int .i64 p2.1.f2, .int .u64 (p2.2 : Int)] 139 :: box gx [.slice A1 (recR ds n0).length c1, .int .u64 (n0 : Int), .int .u64 (p2.2 : Int), .string ⟨#[]⟩, .int .i64 0, .slice none 0 0] 129 :: row k62 62 (.slice A1 (recR ds n0).length c1) (recR ds n0) :: box gz [.slice none 0 0, .int .u64 0, .int .u64 0, .string ⟨#[]⟩, .int .i64 0, .slice none 0 0] 129 :: row k139 139 (.slice (some aq) (ps).length cq) ps :: marks mk) (by rfl) (fun args w => by simp [go_sem]) (fun x => rfl) HIT.out ⟨A1, c1, ?_⟩ H ?_ ?_ ?_
            · simp [endOf]
            · clear H
              intro l_ S pre x post W1 rs K_ hx hR H HK
              obtain ⟨A2, c2, rfl⟩ := hR
              have H1 : Aside0 (Sep w W1 (box ge [.int .i64 (endOf 0 pre : Int)] 3 :: box gp [.string p2.1.f0, .string p2.1.f1, .int .i64 p2.1.f2, .int .u64 (p2.2 : Int)] 139 :: box gx [.slice A2 (recR ds n0 ++ pre.map toRec).length c2, .int .u64 (n0 : Int), .int .u64 ((p2.2 + pre.length : Nat) : Int), .string ⟨#[]⟩, .int .i64 0, .slice none 0 0] 129 :: row k62 62 (.slice A2 (recR ds n0 ++ pre.map toRec).length c2) (recR ds n0 ++ pre.map toRec) :: box gz [.slice none 0 0, .int .u64 0, .int .u64 0, .string ⟨#[]⟩, .int .i64 0, .slice none 0 0] 129 :: row k139 139 (.slice (some aq) ps.length cq) ps :: (marks mk ++ S))) := H
              clear H
              have H := H1
              clear H1
              have HX := Aside0.mk hx
              clear hx
              have c_e := H.out.cell (g := ge) mem0
              have c_x := H.out.cell (g := gx) mem2
              simp only [encR, List.zip_toArray, List.zip_cons_cons, List.zip_nil_right, List.foldl_toArray', List.foldl_cons, List.foldl_nil, List.setIfInBounds_toArray, List.set_cons_zero, List.set_cons_succ]
              gi_wp2_with (first
 | ((with_reducible refine gate_dstIn (N := 9) rfl ?_);
    refine new_boxIn rfl rfl (fun c e => by cases e) H (cs := [.int .u64 0, .string ⟨#[]⟩]) (t := 62) ?hr ?_;
    (case hr => first | (go_simp; done) | (go_simp; rfl));
    intro gr wd13 n_;
    simp only [Act.put, List.setIfInBounds_toArray, List.set_cons_zero, List.set_cons_succ];
    clear H c_e c_x;
    have H := n_;
    clear n_;
    have c_r := H.out.cell (g := gr) mem0;
    have z_r := H.out.frozen (g := gr) mem0;
    have c_e := H.out.cell (g := ge) mem1;
    have c_x := H.out.cell (g := gx) mem3)
 | ((with_reducible refine gate_storeIn (t := 62) (q := 9) rfl ?_);
    refine put_boxIn (rs1 := (box gr [.int .u64 (x.2.1 : Int), .string x.2.2] 62 :: box ge [.int .i64 (endOf 0 pre : Int)] 3 :: box gp [.string p2.1.f0, .string p2.1.f1, .int .i64 p2.1.f2, .int .u64 (p2.2 : Int)] 139 :: box gx [.slice A2 (recR ds n0 ++ pre.map toRec).length c2, .int .u64 (n0 : Int), .int .u64 ((p2.2 + pre.length : Nat) : Int), .string ⟨#[]⟩, .int .i64 0, .slice none 0 0] 129 :: row k62 62 (.slice A2 ((recR ds n0 ++ pre.map toRec)).length c2) ((recR ds n0 ++ pre.map toRec)) :: box gz [.slice none 0 0, .int .u64 0, .int .u64 0, .string ⟨#[]⟩, .int .i64 0, .slice none 0 0] 129 :: row k139 139 (.slice (some aq) (ps).length cq) ps :: (marks mk ++ S))) rfl (t := 62) (q := 9) rfl rfl rfl ?hr (H1 := (Sep.set0 (Sep.set0 H.out 0 (.int .u64 (x.2.1 : Int)) rfl) 1 (.string x.2.2) rfl)) ?_;
    (case hr => first | (go_simp; done) | (go_simp; rfl));
    intro wd14 n_;
    clear H c_r z_r c_e c_x;
    have H := n_;
    clear n_;
    have c_r := H.out.cell (g := gr) mem0;
    have z_r := H.out.frozen (g := gr) mem0;
    have c_e := H.out.cell (g := ge) mem1;
    have c_x := H.out.cell (g := gx) mem3)
 | fail)
              exact HK _ _ _ ⟨_, gr, A2, c2, rfl, rfl, rfl, rfl, rfl, rfl, rfl⟩ H
            · clear H
              intro l_ S pre x post a1 W2 ms hx hM H
              obtain ⟨T, gr, A2, c2, rfl, hT, k3, k7, k8, k9, rfl⟩ := hM
              have H1 : Aside0 (Sep w W2 (box gr [.int .u64 (x.2.1 : Int), .string x.2.2] 62 :: (box ge [.int .i64 (endOf 0 pre : Int)] 3 :: box gp [.string p2.1.f0, .string p2.1.f1, .int .i64 p2.1.f2, .int .u64 (p2.2 : Int)] 139 :: box gx [.slice A2 (recR ds n0 ++ pre.map toRec).length c2, .int .u64 (n0 : Int), .int .u64 ((p2.2 + pre.length : Nat) : Int), .string ⟨#[]⟩, .int .i64 0, .slice none 0 0] 129 :: row k62 62 (.slice A2 (recR ds n0 ++ pre.map toRec).length c2) (recR ds n0 ++ pre.map toRec) :: box gz [.slice none 0 0, .int .u64 0, .int .u64 0, .string ⟨#[]⟩, .int .i64 0, .slice none 0 0] 129 :: row k139 139 (.slice (some aq) ps.length cq) ps :: (marks mk ++ S)))) := H
              clear H
              have H := H1
              clear H1
              have HX := Aside0.mk hx
              clear hx
              obtain ⟨u2, hTu⟩ := frame_open68b hT k3 k7 k8 k9
              subst hTu
              clear hT k3 k7 k8 k9
              obtain ⟨rl, hrl⟩ : ∃ rl, rl = (recR ds n0 ++ pre.map toRec) := ⟨_, rfl⟩
              rw [← hrl] at H
              obtain ⟨mm, hmm⟩ : ∃ mm, mm = p2.2 + pre.length := ⟨_, rfl⟩
              rw [← hmm] at H
              have HRL := Aside0.mk hrl
              have HMM := Aside0.mk hmm
              clear hrl hmm
              have hpx : pre.length + 1 ≤ 262144 := by
                have h1 := recs_len p2.1.f1 0 p2.2
                rw [← HXS.out, HX.out, List.length_append, List.length_cons] at h1
                have := HSZ.out
                omega
              have HOL : Aside0 (rl.length ≤ 16777216 + 262144) := ⟨by rw [HRL.out, List.length_append, recR_length, List.length_map]; omega⟩
              have hm3 : mm < 9223372036854775807 := by
                have := HPM.out
                unfold most at this
                rw [HMM.out]
                omega
              clear hpx
              have c_r := H.out.cell (g := gr) mem0
              have c_e := H.out.cell (g := ge) mem1
              have z_e := H.out.frozen (g := ge) mem1
              have c_x := H.out.cell (g := gx) mem3
              have z_x := H.out.frozen (g := gx) mem3
              gi_wp2_with (first
 | ((with_reducible refine gate_builtinIn (bf := .append) (xs := #[.tmp 56, .tmp 58]) rfl ?_); gi_at_builtin;
    refine app_rowIn4 k62 k62_flat rfl (.tmp 56) (.tmp 58) 54 62 (.agg #[.int .u64 0, .string ⟨#[]⟩]) 24 rfl Tryz.underlying54 info62 rfl (by decide) (by omega) (.slice A2 (rl).length c2) _ ((toRec x)) [.int .u64 (x.2.1 : Int), .string x.2.2] ?hs ?hx ?hp rfl H ?hl ?_;
    (case hs => first | rfl | (go_simp; done) | (simp; rfl));
    (case hx => first | (go_simp; done) | (go_simp; rfl));
    (case hp => exact k62_mkM _ _ _ _);
    (case hl => (have := HOL.out; omega));
    intro Ao2 co2 wd15 n_;
    clear H c_r c_e z_e c_x z_x;
    have H := n_;
    clear n_;
    have c_r := H.out.cell (g := gr) mem0;
    have c_e := H.out.cell (g := ge) mem1;
    have z_e := H.out.frozen (g := ge) mem1;
    have c_x := H.out.cell (g := gx) mem3;
    have z_x := H.out.frozen (g := gx) mem3)
 | ((with_reducible refine gate_storeIn (t := 54) (q := 60) rfl ?_);
    refine put_boxIn (rs1 := (box gr [.int .u64 (x.2.1 : Int), .string x.2.2] 62 :: box ge [.int .i64 (endOf 0 pre : Int)] 3 :: box gp [.string p2.1.f0, .string p2.1.f1, .int .i64 p2.1.f2, .int .u64 (p2.2 : Int)] 139 :: box gx [.slice Ao2 ((rl ++ [(toRec x)])).length co2, .int .u64 (n0 : Int), .int .u64 (mm : Int), .string ⟨#[]⟩, .int .i64 0, .slice none 0 0] 129 :: row k62 62 (.slice Ao2 ((rl ++ [(toRec x)])).length co2) ((rl ++ [(toRec x)])) :: box gz [.slice none 0 0, .int .u64 0, .int .u64 0, .string ⟨#[]⟩, .int .i64 0, .slice none 0 0] 129 :: row k139 139 (.slice (some aq) (ps).length cq) ps :: (marks mk ++ S))) rfl (t := 54) (q := 60) rfl rfl rfl ?hr (H1 := (Sep.set3 H.out 0 (.slice Ao2 ((rl ++ [(toRec x)])).length co2) rfl)) ?_;
    (case hr => first | (go_simp; done) | (go_simp; rfl));
    intro wd16 n_;
    clear H c_r c_e z_e c_x z_x;
    have H := n_;
    clear n_;
    have c_r := H.out.cell (g := gr) mem0;
    have c_e := H.out.cell (g := ge) mem1;
    have z_e := H.out.frozen (g := ge) mem1;
    have c_x := H.out.cell (g := gx) mem3;
    have z_x := H.out.frozen (g := gx) mem3)
 | ((with_reducible refine gate_storeIn (t := 3) (q := 7) rfl ?_);
    refine put_boxIn (rs1 := (box gr [.int .u64 (x.2.1 : Int), .string x.2.2] 62 :: box ge [.int .i64 (x.1 : Int)] 3 :: box gp [.string p2.1.f0, .string p2.1.f1, .int .i64 p2.1.f2, .int .u64 (p2.2 : Int)] 139 :: box gx [.slice Ao2 ((rl ++ [(toRec x)])).length co2, .int .u64 (n0 : Int), .int .u64 (mm : Int), .string ⟨#[]⟩, .int .i64 0, .slice none 0 0] 129 :: row k62 62 (.slice Ao2 ((rl ++ [(toRec x)])).length co2) ((rl ++ [(toRec x)])) :: box gz [.slice none 0 0, .int .u64 0, .int .u64 0, .string ⟨#[]⟩, .int .i64 0, .slice none 0 0] 129 :: row k139 139 (.slice (some aq) (ps).length cq) ps :: (marks mk ++ S))) rfl (t := 3) (q := 7) rfl rfl rfl ?hr (H1 := (Sep.set1 H.out 0 (.int .i64 (x.1 : Int)) rfl)) ?_;
    (case hr => first | (go_simp; done) | (go_simp; rfl));
    intro wd17 n_;
    clear H c_r c_e z_e c_x z_x;
    have H := n_;
    clear n_;
    have c_r := H.out.cell (g := gr) mem0;
    have c_e := H.out.cell (g := ge) mem1;
    have z_e := H.out.frozen (g := ge) mem1;
    have c_x := H.out.cell (g := gx) mem3;
    have z_x := H.out.frozen (g := gx) mem3)
 | ((with_reducible refine gate_storeIn (t := 28) (q := 65) rfl ?_);
    refine put_boxIn (rs1 := (box gr [.int .u64 (x.2.1 : Int), .string x.2.2] 62 :: box ge [.int .i64 (x.1 : Int)] 3 :: box gp [.string p2.1.f0, .string p2.1.f1, .int .i64 p2.1.f2, .int .u64 (p2.2 : Int)] 139 :: box gx [.slice Ao2 ((rl ++ [(toRec x)])).length co2, .int .u64 (n0 : Int), .int .u64 ((mm : Int) + 1), .string ⟨#[]⟩, .int .i64 0, .slice none 0 0] 129 :: row k62 62 (.slice Ao2 ((rl ++ [(toRec x)])).length co2) ((rl ++ [(toRec x)])) :: box gz [.slice none 0 0, .int .u64 0, .int .u64 0, .string ⟨#[]⟩, .int .i64 0, .slice none 0 0] 129 :: row k139 139 (.slice (some aq) (ps).length cq) ps :: (marks mk ++ S))) rfl (t := 28) (q := 65) rfl rfl rfl ?hr (H1 := (Sep.set3 H.out 2 (.int .u64 ((mm : Int) + 1)) rfl)) ?_;
    (case hr => first | (go_simp; done) | (go_simp; rfl));
    intro wd18 n_;
    clear H c_r c_e z_e c_x z_x;
    have H := n_;
    clear n_;
    have c_r := H.out.cell (g := gr) mem0;
    have c_e := H.out.cell (g := ge) mem1;
    have z_e := H.out.frozen (g := ge) mem1;
    have c_x := H.out.cell (g := gx) mem3;
    have z_x := H.out.frozen (g := gx) mem3)
 | fail)
              have e1 : recR ds n0 ++ (pre ++ [x]).map toRec = rl ++ [toRec x] := by
                rw [HRL.out, List.map_append, ← List.append_assoc]
                rfl
              have e2 : ((p2.2 + (pre ++ [x]).length : Nat) : Int) = (mm : Int) + 1 := by
                rw [HMM.out, List.length_append, List.length_singleton]
                omega
              refine ⟨_, ⟨Ao2, co2, rfl⟩, ⟨?_⟩⟩
              rw [e1, e2, endOf_snoc]
              exact Sep.drop0 H.out
            · clear H
              intro D W2 rs hR H
              obtain ⟨A2, c2, rfl⟩ := hR
              have e1 := congrArg (·.map toRec) HXS.out
              have e2 : endOf 0 xs = (readB SU (byt p2.1.f1) p2.2).2 := by rw [HXS.out]; exact read_end _ _
              have e3 := congrArg List.length HXS.out
              rw [recsAt, List.drop_zero] at e1 e3
              simp only [recsL_map] at e1
              rw [recsL_length] at e3
              obtain ⟨d1, hd1⟩ : ∃ d1, d1 = (readB SU (byt p2.1.f1) p2.2).1 := ⟨_, rfl⟩
              obtain ⟨en, hen⟩ : ∃ en, en = (readB SU (byt p2.1.f1) p2.2).2 := ⟨_, rfl⟩
              rw [← hd1] at e1 e3
              rw [← hen] at e2
              have e4 : recR ds n0 ++ xs.map toRec = recR (ds ++ d1) n0 := by rw [recR_append, e1, ← HM.out]
              have HFN := Aside0.mk (FI_step HFI.out (drop_get2 hp2) rfl)
              rw [← hd1, ← hen] at HFN
              have hdl1 : d1.length ≤ 262144 := by
                have h1 := recs_len p2.1.f1 0 p2.2
                rw [← HXS.out, e3] at h1
                have := HSZ.out
                omega
              have hen1 : en ≤ 262144 := by
                have h1 := read_le p2.1.f1 p2.2
                rw [← hen] at h1
                have := HSZ.out
                omega
              clear hd1 hen
              have H0 := H.out.perm List.perm_append_comm
              rw [e4, e2, e3] at H0
              have H1 : Aside0 (Sep w W2 (box gq [.int .u64 ((p2.2 + xs.length : Nat) : Int)] 28 :: box gs [.string p2.1.f1] 9 :: thing D (.deferred (some [])) :: box ge [.int .i64 (en : Int)] 3 :: box gp [.string p2.1.f0, .string p2.1.f1, .int .i64 p2.1.f2, .int .u64 (p2.2 : Int)] 139 :: box gx [.slice A2 (recR (ds ++ d1) n0).length c2, .int .u64 (n0 : Int), .int .u64 ((p2.2 + d1.length : Nat) : Int), .string ⟨#[]⟩, .int .i64 0, .slice none 0 0] 129 :: row k62 62 (.slice A2 (recR (ds ++ d1) n0).length c2) (recR (ds ++ d1) n0) :: box gz [.slice none 0 0, .int .u64 0, .int .u64 0, .string ⟨#[]⟩, .int .i64 0, .slice none 0 0] 129 :: row k139 139 (.slice (some aq) (ps).length cq) ps :: marks mk)) := ⟨H0⟩
              clear H H0 e1 e2 e3 e4
              have H := H1
              clear H1
              have c_e := H.out.cell (g := ge) mem3
              have c_p := H.out.cell (g := gp) mem4
              have c_x := H.out.cell (g := gx) mem5
              have z_x := H.out.frozen (g := gx) mem5
              have hsz : p2.1.f1.size ≤ 262144 := HSZ.out
              by_cases hto : en < p2.1.f1.size
              ·
                rw [if_pos hto] at HFN
                go_upto_region 18 with fail
                go_region
                refine gen_k (rs := (box gq [.int .u64 ((p2.2 + xs.length : Nat) : Int)] 28 :: box gs [.string p2.1.f1] 9 :: thing D (.deferred (some [])) :: box ge [.int .i64 (en : Int)] 3 :: box gp [.string p2.1.f0, .string p2.1.f1, .int .i64 p2.1.f2, .int .u64 (p2.2 : Int)] 139 :: box gx [.slice A2 (recR (ds ++ d1) n0).length c2, .int .u64 (n0 : Int), .int .u64 ((p2.2 + d1.length : Nat) : Int), .string p2.1.f0, .int .i64 (en : Int), .slice none 0 0] 129 :: row k62 62 (.slice A2 (recR (ds ++ d1) n0).length c2) (recR (ds ++ d1) n0) :: box gz [.slice none 0 0, .int .u64 0, .int .u64 0, .string ⟨#[]⟩, .int .i64 0, .slice none 0 0] 129 :: row k139 139 (.slice (some aq) (ps).length cq) ps :: marks mk)) (Sep.drew (Sep.set5 (Sep.set5 H.out 3 (.string p2.1.f0) rfl) 4 (.int .i64 (en : Int)) rfl)) ?_
                intro wd19 n_
                clear H c_e c_p c_x z_x
                have H := n_
                clear n_
                have c_e := H.out.cell (g := ge) mem3
                have c_p := H.out.cell (g := gp) mem4
                have c_x := H.out.cell (g := gx) mem5
                have z_x := H.out.frozen (g := gx) mem5
                go_wp2_with fail
                refine ⟨⟨_, i + 1, ds ++ d1, p2.2 + d1.length, some (p2, en), D :: mk, A2, c2, rfl, rfl, rfl, rfl, rfl, rfl, rfl, ?_, by omega, ?_, ⟨?_⟩, HFN, ⟨?_⟩⟩, ?_⟩
                · rfl
                · rw [List.length_append]
                  omega
                · rw [HM.out, List.length_append]
                  omega
                · exact (Sep.front4 (Sep.front4 (Sep.front4 (Sep.front4 (Sep.drop0 (Sep.drop1 (Sep.drop3 (Sep.drop4 H.out))))))))
                · simp [intOf]
                  omega
              ·
                rw [if_neg hto] at HFN
                go_wp2_with fail
                go_wp2_with fail
                refine ⟨⟨_, i + 1, ds ++ d1, p2.2 + d1.length, none, D :: mk, A2, c2, rfl, rfl, rfl, rfl, rfl, rfl, rfl, ?_, by omega, ?_, ⟨?_⟩, HFN, ⟨?_⟩⟩, ?_⟩
                · rfl
                · rw [List.length_append]
                  omega
                · rw [HM.out, List.length_append]
                  omega
                · exact (Sep.front4 (Sep.front4 (Sep.front4 (Sep.front4 (Sep.drop0 (Sep.drop1 (Sep.drop3 (Sep.drop4 H.out))))))))
                · simp [intOf]
                  omega
          ·
            have hqi : ¬ (p2.2 : Int) = (m : Int) := by omega
            have HNE := Aside0.mk hne
            clear hne
            have HFE := Aside0.mk (FI_other HFI.out (drop_get2 hp2) HNE.out)
            have n_ : Aside0 (Sep w wr (box gx [.slice A1 (recR ds n0).length c1, .int .u64 (n0 : Int), .int .u64 (m : Int), .string ⟨#[]⟩, .int .i64 0, .slice none 0 0] 129 :: row k62 62 (.slice A1 (recR ds n0).length c1) (recR ds n0) :: box gz [.slice none 0 0, .int .u64 0, .int .u64 0, .string ⟨#[]⟩, .int .i64 0, .slice none 0 0] 129 :: row k139 139 (.slice (some aq) (ps).length cq) ps :: marks mk)) := ⟨H.out⟩
            clear H c_x z_x c_z
            have H := n_
            clear n_
            have c_x := H.out.cell (g := gx) mem0
            have z_x := H.out.frozen (g := gx) mem0
            have c_z := H.out.cell (g := gz) mem2
            have z_z := H.out.frozen (g := gz) mem2
            have hcq : (ps.length : Int) ≤ (cq : Int) := by have := (H.out.reads (A := some aq) mem3).2.1; omega
            go_wp2_with (first
 | ((with_reducible refine gate_dst (N := 6) rfl ?_);
    refine new_box rfl H (cs := [.string ⟨#[]⟩, .string ⟨#[]⟩, .int .i64 0, .int .u64 0]) (t := 139) ?hr ?_;
    (case hr => first | (go_simp; done) | (go_simp; rfl));
    intro gp wd20 n_;
    simp only [Act.put, List.setIfInBounds_toArray, List.set_cons_zero, List.set_cons_succ];
    clear H c_x z_x c_z z_z;
    have H := n_;
    clear n_;
    have c_p := H.out.cell (g := gp) mem0;
    have z_p := H.out.frozen (g := gp) mem0;
    have c_x := H.out.cell (g := gx) mem1;
    have z_x := H.out.frozen (g := gx) mem1;
    have c_z := H.out.cell (g := gz) mem3;
    have z_z := H.out.frozen (g := gz) mem3)
 | ((with_reducible refine gate_store (t := 139) (p := 6) rfl ?_);
    refine put_box (rs1 := (box gp [.string p2.1.f0, .string p2.1.f1, .int .i64 p2.1.f2, .int .u64 (p2.2 : Int)] 139 :: box gx [.slice A1 (recR ds n0).length c1, .int .u64 (n0 : Int), .int .u64 (m : Int), .string ⟨#[]⟩, .int .i64 0, .slice none 0 0] 129 :: row k62 62 (.slice A1 (recR ds n0).length c1) (recR ds n0) :: box gz [.slice none 0 0, .int .u64 0, .int .u64 0, .string ⟨#[]⟩, .int .i64 0, .slice none 0 0] 129 :: row k139 139 (.slice (some aq) (ps).length cq) ps :: marks mk)) rfl (t := 139) (p := 6) rfl rfl ?hr (H1 := (Sep.set0 (Sep.set0 (Sep.set0 (Sep.set0 H.out 0 (.string p2.1.f0) rfl) 1 (.string p2.1.f1) rfl) 2 (.int .i64 p2.1.f2) rfl) 3 (.int .u64 (p2.2 : Int)) rfl)) ?_;
    (case hr => first | (go_simp; done) | (go_simp; rfl));
    intro wd21 n_;
    clear H c_p z_p c_x z_x c_z z_z;
    have H := n_;
    clear n_;
    have c_p := H.out.cell (g := gp) mem0;
    have z_p := H.out.frozen (g := gp) mem0;
    have c_x := H.out.cell (g := gx) mem1;
    have z_x := H.out.frozen (g := gx) mem1;
    have c_z := H.out.cell (g := gz) mem3;
    have z_z := H.out.frozen (g := gz) mem3;
    clear h0 h1 h2 h3)
 | ((with_reducible refine gate_store (t := 127) (p := 46) rfl ?_);
    refine put_box (rs1 := (box gp [.string p2.1.f0, .string p2.1.f1, .int .i64 p2.1.f2, .int .u64 (p2.2 : Int)] 139 :: box gx [.slice A1 (recR ds n0).length c1, .int .u64 (n0 : Int), .int .u64 (m : Int), .string ⟨#[]⟩, .int .i64 0, .slice (some (aq.add (i * 4))) (ps.length - i) (cq - i)] 129 :: row k62 62 (.slice A1 (recR ds n0).length c1) (recR ds n0) :: box gz [.slice none 0 0, .int .u64 0, .int .u64 0, .string ⟨#[]⟩, .int .i64 0, .slice none 0 0] 129 :: row k139 139 (.slice (some aq) (ps).length cq) ps :: marks mk)) rfl (t := 127) (p := 46) rfl rfl ?hr (H1 := (Sep.set1 H.out 5 (.slice (some (aq.add (i * 4))) (ps.length - i) (cq - i)) rfl)) ?_;
    (case hr => first | (go_simp; done) | (go_simp; rfl));
    intro wd22 n_;
    clear H c_p z_p c_x z_x c_z z_z;
    have H := n_;
    clear n_;
    have c_p := H.out.cell (g := gp) mem0;
    have z_p := H.out.frozen (g := gp) mem0;
    have c_x := H.out.cell (g := gx) mem1;
    have z_x := H.out.frozen (g := gx) mem1;
    have c_z := H.out.cell (g := gz) mem3;
    have z_z := H.out.frozen (g := gz) mem3)
 | ((with_reducible refine gate_store (t := 129) (p := 2) rfl ?_);
    refine put_box (rs1 := (box gp [.string p2.1.f0, .string p2.1.f1, .int .i64 p2.1.f2, .int .u64 (p2.2 : Int)] 139 :: box gx [.slice A1 (recR ds n0).length c1, .int .u64 (n0 : Int), .int .u64 (m : Int), .string ⟨#[]⟩, .int .i64 0, .slice (some (aq.add (i * 4))) (ps.length - i) (cq - i)] 129 :: row k62 62 (.slice A1 (recR ds n0).length c1) (recR ds n0) :: box gz [.slice A1 (recR ds n0).length c1, .int .u64 (n0 : Int), .int .u64 (m : Int), .string ⟨#[]⟩, .int .i64 0, .slice (some (aq.add (i * 4))) (ps.length - i) (cq - i)] 129 :: row k139 139 (.slice (some aq) (ps).length cq) ps :: marks mk)) rfl (t := 129) (p := 2) rfl rfl ?hr (H1 := (Sep.set3 (Sep.set3 (Sep.set3 (Sep.set3 (Sep.set3 (Sep.set3 H.out 0 (.slice A1 (recR ds n0).length c1) rfl) 1 (.int .u64 (n0 : Int)) rfl) 2 (.int .u64 (m : Int)) rfl) 3 (.string ⟨#[]⟩) rfl) 4 (.int .i64 0) rfl) 5 (.slice (some (aq.add (i * 4))) (ps.length - i) (cq - i)) rfl)) ?_;
    (case hr => first | (go_simp; done) | (go_simp; rfl));
    intro wd23 n_;
    clear H c_p z_p c_x z_x c_z z_z;
    have H := n_;
    clear n_;
    have c_p := H.out.cell (g := gp) mem0;
    have z_p := H.out.frozen (g := gp) mem0;
    have c_x := H.out.cell (g := gx) mem1;
    have z_x := H.out.frozen (g := gx) mem1;
    have c_z := H.out.cell (g := gz) mem3;
    have z_z := H.out.frozen (g := gz) mem3)
 | fail)
            have hln : (ps.drop i).length = ps.length - i := List.length_drop
            rw [← hln] at H
            obtain rfl := HFE.out
            exact find_fin (ps := ps) (mk := mk) rfl (Sep.front2 (Sep.front1 (Sep.front2 (Sep.drop0 (Sep.drop1 H.out))))) (fun w' h => by rw [hln]; exact C139_drop h hi) (by rw [hln]; omega)
        | some tx =>
          have HFE := Aside0.mk (FI_torn HFI.out)
          have hnt : (tornName (some tx)).toList ≠ [] := (places_size HOK.out HPS.out (goF_torn (S := SU) (n := n0) (x := tx) (by rw [← HF.out, HFE.out]))).2.2
          obtain ⟨tn, htn⟩ : ∃ tn, tn = tornName (some tx) := ⟨_, rfl⟩
          obtain ⟨ta, hta⟩ : ∃ ta, ta = tornAt (some tx) := ⟨_, rfl⟩
          rw [← htn] at hnt
          rw [← htn, ← hta] at H
          have HTN := Aside0.mk htn
          have HTA := Aside0.mk hta
          clear htn hta
          clear c_x z_x c_z
          have c_x := H.out.cell (g := gx) mem0
          have z_x := H.out.frozen (g := gx) mem0
          have c_z := H.out.cell (g := gz) mem2
          have hnb : (tn.toList == ([] : List UInt8)) = false := beq_eq_false_iff_ne.2 hnt
          clear hnt
          by_cases hne : p2.2 = m
          ·
            subst hne
            have n_ : Aside0 (Sep w wr (box gx [.slice A1 (recR ds n0).length c1, .int .u64 (n0 : Int), .int .u64 (p2.2 : Int), .string tn, .int .i64 ta, .slice none 0 0] 129 :: row k62 62 (.slice A1 (recR ds n0).length c1) (recR ds n0) :: box gz [.slice none 0 0, .int .u64 0, .int .u64 0, .string ⟨#[]⟩, .int .i64 0, .slice none 0 0] 129 :: row k139 139 (.slice (some aq) (ps).length cq) ps :: marks mk)) := ⟨H.out⟩
            clear H c_x z_x c_z
            have H := n_
            clear n_
            have c_x := H.out.cell (g := gx) mem0
            have z_x := H.out.frozen (g := gx) mem0
            have c_z := H.out.cell (g := gz) mem2
            have z_z := H.out.frozen (g := gz) mem2
            have hcq : (ps.length : Int) ≤ (cq : Int) := by have := (H.out.reads (A := some aq) mem3).2.1; omega
            go_wp2_with (first
 | ((with_reducible refine gate_dst (N := 6) rfl ?_);
    refine new_box rfl H (cs := [.string ⟨#[]⟩, .string ⟨#[]⟩, .int .i64 0, .int .u64 0]) (t := 139) ?hr ?_;
    (case hr => first | (go_simp; done) | (go_simp; rfl));
    intro gp wd24 n_;
    simp only [Act.put, List.setIfInBounds_toArray, List.set_cons_zero, List.set_cons_succ];
    clear H c_x z_x c_z z_z;
    have H := n_;
    clear n_;
    have c_p := H.out.cell (g := gp) mem0;
    have z_p := H.out.frozen (g := gp) mem0;
    have c_x := H.out.cell (g := gx) mem1;
    have z_x := H.out.frozen (g := gx) mem1;
    have c_z := H.out.cell (g := gz) mem3;
    have z_z := H.out.frozen (g := gz) mem3)
 | ((with_reducible refine gate_store (t := 139) (p := 6) rfl ?_);
    refine put_box (rs1 := (box gp [.string p2.1.f0, .string p2.1.f1, .int .i64 p2.1.f2, .int .u64 (p2.2 : Int)] 139 :: box gx [.slice A1 (recR ds n0).length c1, .int .u64 (n0 : Int), .int .u64 (p2.2 : Int), .string tn, .int .i64 ta, .slice none 0 0] 129 :: row k62 62 (.slice A1 (recR ds n0).length c1) (recR ds n0) :: box gz [.slice none 0 0, .int .u64 0, .int .u64 0, .string ⟨#[]⟩, .int .i64 0, .slice none 0 0] 129 :: row k139 139 (.slice (some aq) (ps).length cq) ps :: marks mk)) rfl (t := 139) (p := 6) rfl rfl ?hr (H1 := (Sep.set0 (Sep.set0 (Sep.set0 (Sep.set0 H.out 0 (.string p2.1.f0) rfl) 1 (.string p2.1.f1) rfl) 2 (.int .i64 p2.1.f2) rfl) 3 (.int .u64 (p2.2 : Int)) rfl)) ?_;
    (case hr => first | (go_simp; done) | (go_simp; rfl));
    intro wd25 n_;
    clear H c_p z_p c_x z_x c_z z_z;
    have H := n_;
    clear n_;
    have c_p := H.out.cell (g := gp) mem0;
    have z_p := H.out.frozen (g := gp) mem0;
    have c_x := H.out.cell (g := gx) mem1;
    have z_x := H.out.frozen (g := gx) mem1;
    have c_z := H.out.cell (g := gz) mem3;
    have z_z := H.out.frozen (g := gz) mem3;
    clear h0 h1 h2 h3)
 | ((with_reducible refine gate_store (t := 127) (p := 46) rfl ?_);
    refine put_box (rs1 := (box gp [.string p2.1.f0, .string p2.1.f1, .int .i64 p2.1.f2, .int .u64 (p2.2 : Int)] 139 :: box gx [.slice A1 (recR ds n0).length c1, .int .u64 (n0 : Int), .int .u64 (p2.2 : Int), .string tn, .int .i64 ta, .slice (some (aq.add (i * 4))) (ps.length - i) (cq - i)] 129 :: row k62 62 (.slice A1 (recR ds n0).length c1) (recR ds n0) :: box gz [.slice none 0 0, .int .u64 0, .int .u64 0, .string ⟨#[]⟩, .int .i64 0, .slice none 0 0] 129 :: row k139 139 (.slice (some aq) (ps).length cq) ps :: marks mk)) rfl (t := 127) (p := 46) rfl rfl ?hr (H1 := (Sep.set1 H.out 5 (.slice (some (aq.add (i * 4))) (ps.length - i) (cq - i)) rfl)) ?_;
    (case hr => first | (go_simp; done) | (go_simp; rfl));
    intro wd26 n_;
    clear H c_p z_p c_x z_x c_z z_z;
    have H := n_;
    clear n_;
    have c_p := H.out.cell (g := gp) mem0;
    have z_p := H.out.frozen (g := gp) mem0;
    have c_x := H.out.cell (g := gx) mem1;
    have z_x := H.out.frozen (g := gx) mem1;
    have c_z := H.out.cell (g := gz) mem3;
    have z_z := H.out.frozen (g := gz) mem3)
 | ((with_reducible refine gate_store (t := 129) (p := 2) rfl ?_);
    refine put_box (rs1 := (box gp [.string p2.1.f0, .string p2.1.f1, .int .i64 p2.1.f2, .int .u64 (p2.2 : Int)] 139 :: box gx [.slice A1 (recR ds n0).length c1, .int .u64 (n0 : Int), .int .u64 (p2.2 : Int), .string tn, .int .i64 ta, .slice (some (aq.add (i * 4))) (ps.length - i) (cq - i)] 129 :: row k62 62 (.slice A1 (recR ds n0).length c1) (recR ds n0) :: box gz [.slice A1 (recR ds n0).length c1, .int .u64 (n0 : Int), .int .u64 (p2.2 : Int), .string tn, .int .i64 ta, .slice (some (aq.add (i * 4))) (ps.length - i) (cq - i)] 129 :: row k139 139 (.slice (some aq) (ps).length cq) ps :: marks mk)) rfl (t := 129) (p := 2) rfl rfl ?hr (H1 := (Sep.set3 (Sep.set3 (Sep.set3 (Sep.set3 (Sep.set3 (Sep.set3 H.out 0 (.slice A1 (recR ds n0).length c1) rfl) 1 (.int .u64 (n0 : Int)) rfl) 2 (.int .u64 (p2.2 : Int)) rfl) 3 (.string tn) rfl) 4 (.int .i64 ta) rfl) 5 (.slice (some (aq.add (i * 4))) (ps.length - i) (cq - i)) rfl)) ?_;
    (case hr => first | (go_simp; done) | (go_simp; rfl));
    intro wd27 n_;
    clear H c_p z_p c_x z_x c_z z_z;
    have H := n_;
    clear n_;
    have c_p := H.out.cell (g := gp) mem0;
    have z_p := H.out.frozen (g := gp) mem0;
    have c_x := H.out.cell (g := gx) mem1;
    have z_x := H.out.frozen (g := gx) mem1;
    have c_z := H.out.cell (g := gz) mem3;
    have z_z := H.out.frozen (g := gz) mem3)
 | fail)
            have hln : (ps.drop i).length = ps.length - i := List.length_drop
            rw [← hln, HTN.out, HTA.out] at H
            obtain rfl := HFE.out
            exact find_fin (ps := ps) (mk := mk) rfl (Sep.front2 (Sep.front1 (Sep.front2 (Sep.drop0 (Sep.drop1 H.out))))) (fun w' h => by rw [hln]; exact C139_drop h hi) (by rw [hln]; omega)
          ·
            have hqi : ¬ (p2.2 : Int) = (m : Int) := by omega
            clear hne
            have n_ : Aside0 (Sep w wr (box gx [.slice A1 (recR ds n0).length c1, .int .u64 (n0 : Int), .int .u64 (m : Int), .string tn, .int .i64 ta, .slice none 0 0] 129 :: row k62 62 (.slice A1 (recR ds n0).length c1) (recR ds n0) :: box gz [.slice none 0 0, .int .u64 0, .int .u64 0, .string ⟨#[]⟩, .int .i64 0, .slice none 0 0] 129 :: row k139 139 (.slice (some aq) (ps).length cq) ps :: marks mk)) := ⟨H.out⟩
            clear H c_x z_x c_z
            have H := n_
            clear n_
            have c_x := H.out.cell (g := gx) mem0
            have z_x := H.out.frozen (g := gx) mem0
            have c_z := H.out.cell (g := gz) mem2
            have z_z := H.out.frozen (g := gz) mem2
            have hcq : (ps.length : Int) ≤ (cq : Int) := by have := (H.out.reads (A := some aq) mem3).2.1; omega
            go_wp2_with (first
 | ((with_reducible refine gate_dst (N := 6) rfl ?_);
    refine new_box rfl H (cs := [.string ⟨#[]⟩, .string ⟨#[]⟩, .int .i64 0, .int .u64 0]) (t := 139) ?hr ?_;
    (case hr => first | (go_simp; done) | (go_simp; rfl));
    intro gp wd28 n_;
    simp only [Act.put, List.setIfInBounds_toArray, List.set_cons_zero, List.set_cons_succ];
    clear H c_x z_x c_z z_z;
    have H := n_;
    clear n_;
    have c_p := H.out.cell (g := gp) mem0;
    have z_p := H.out.frozen (g := gp) mem0;
    have c_x := H.out.cell (g := gx) mem1;
    have z_x := H.out.frozen (g := gx) mem1;
    have c_z := H.out.cell (g := gz) mem3;
    have z_z := H.out.frozen (g := gz) mem3)
 | ((with_reducible refine gate_store (t := 139) (p := 6) rfl ?_);
    refine put_box (rs1 := (box gp [.string p2.1.f0, .string p2.1.f1, .int .i64 p2.1.f2, .int .u64 (p2.2 : Int)] 139 :: box gx [.slice A1 (recR ds n0).length c1, .int .u64 (n0 : Int), .int .u64 (m : Int), .string tn, .int .i64 ta, .slice none 0 0] 129 :: row k62 62 (.slice A1 (recR ds n0).length c1) (recR ds n0) :: box gz [.slice none 0 0, .int .u64 0, .int .u64 0, .string ⟨#[]⟩, .int .i64 0, .slice none 0 0] 129 :: row k139 139 (.slice (some aq) (ps).length cq) ps :: marks mk)) rfl (t := 139) (p := 6) rfl rfl ?hr (H1 := (Sep.set0 (Sep.set0 (Sep.set0 (Sep.set0 H.out 0 (.string p2.1.f0) rfl) 1 (.string p2.1.f1) rfl) 2 (.int .i64 p2.1.f2) rfl) 3 (.int .u64 (p2.2 : Int)) rfl)) ?_;
    (case hr => first | (go_simp; done) | (go_simp; rfl));
    intro wd29 n_;
    clear H c_p z_p c_x z_x c_z z_z;
    have H := n_;
    clear n_;
    have c_p := H.out.cell (g := gp) mem0;
    have z_p := H.out.frozen (g := gp) mem0;
    have c_x := H.out.cell (g := gx) mem1;
    have z_x := H.out.frozen (g := gx) mem1;
    have c_z := H.out.cell (g := gz) mem3;
    have z_z := H.out.frozen (g := gz) mem3;
    clear h0 h1 h2 h3)
 | ((with_reducible refine gate_store (t := 127) (p := 46) rfl ?_);
    refine put_box (rs1 := (box gp [.string p2.1.f0, .string p2.1.f1, .int .i64 p2.1.f2, .int .u64 (p2.2 : Int)] 139 :: box gx [.slice A1 (recR ds n0).length c1, .int .u64 (n0 : Int), .int .u64 (m : Int), .string tn, .int .i64 ta, .slice (some (aq.add (i * 4))) (ps.length - i) (cq - i)] 129 :: row k62 62 (.slice A1 (recR ds n0).length c1) (recR ds n0) :: box gz [.slice none 0 0, .int .u64 0, .int .u64 0, .string ⟨#[]⟩, .int .i64 0, .slice none 0 0] 129 :: row k139 139 (.slice (some aq) (ps).length cq) ps :: marks mk)) rfl (t := 127) (p := 46) rfl rfl ?hr (H1 := (Sep.set1 H.out 5 (.slice (some (aq.add (i * 4))) (ps.length - i) (cq - i)) rfl)) ?_;
    (case hr => first | (go_simp; done) | (go_simp; rfl));
    intro wd30 n_;
    clear H c_p z_p c_x z_x c_z z_z;
    have H := n_;
    clear n_;
    have c_p := H.out.cell (g := gp) mem0;
    have z_p := H.out.frozen (g := gp) mem0;
    have c_x := H.out.cell (g := gx) mem1;
    have z_x := H.out.frozen (g := gx) mem1;
    have c_z := H.out.cell (g := gz) mem3;
    have z_z := H.out.frozen (g := gz) mem3)
 | ((with_reducible refine gate_store (t := 129) (p := 2) rfl ?_);
    refine put_box (rs1 := (box gp [.string p2.1.f0, .string p2.1.f1, .int .i64 p2.1.f2, .int .u64 (p2.2 : Int)] 139 :: box gx [.slice A1 (recR ds n0).length c1, .int .u64 (n0 : Int), .int .u64 (m : Int), .string tn, .int .i64 ta, .slice (some (aq.add (i * 4))) (ps.length - i) (cq - i)] 129 :: row k62 62 (.slice A1 (recR ds n0).length c1) (recR ds n0) :: box gz [.slice A1 (recR ds n0).length c1, .int .u64 (n0 : Int), .int .u64 (m : Int), .string tn, .int .i64 ta, .slice (some (aq.add (i * 4))) (ps.length - i) (cq - i)] 129 :: row k139 139 (.slice (some aq) (ps).length cq) ps :: marks mk)) rfl (t := 129) (p := 2) rfl rfl ?hr (H1 := (Sep.set3 (Sep.set3 (Sep.set3 (Sep.set3 (Sep.set3 (Sep.set3 H.out 0 (.slice A1 (recR ds n0).length c1) rfl) 1 (.int .u64 (n0 : Int)) rfl) 2 (.int .u64 (m : Int)) rfl) 3 (.string tn) rfl) 4 (.int .i64 ta) rfl) 5 (.slice (some (aq.add (i * 4))) (ps.length - i) (cq - i)) rfl)) ?_;
    (case hr => first | (go_simp; done) | (go_simp; rfl));
    intro wd31 n_;
    clear H c_p z_p c_x z_x c_z z_z;
    have H := n_;
    clear n_;
    have c_p := H.out.cell (g := gp) mem0;
    have z_p := H.out.frozen (g := gp) mem0;
    have c_x := H.out.cell (g := gx) mem1;
    have z_x := H.out.frozen (g := gx) mem1;
    have c_z := H.out.cell (g := gz) mem3;
    have z_z := H.out.frozen (g := gz) mem3)
 | fail)
            have hln : (ps.drop i).length = ps.length - i := List.length_drop
            rw [← hln, HTN.out, HTA.out] at H
            obtain rfl := HFE.out
            exact find_fin (ps := ps) (mk := mk) rfl (Sep.front2 (Sep.front1 (Sep.front2 (Sep.drop0 (Sep.drop1 H.out))))) (fun w' h => by rw [hln]; exact C139_drop h hi) (by rw [hln]; omega)
      ·
        have hdr : ps.drop i = [] := List.drop_eq_nil_of_le (by omega)
        have HFE : Aside0 (F = ⟨ds, m, t, []⟩) := ⟨by
          cases t with
          | none => exact FI_end HFI.out (by omega)
          | some tx => rw [FI_torn HFI.out, hdr]⟩
        obtain ⟨tn, htn⟩ : ∃ tn, tn = tornName t := ⟨_, rfl⟩
        obtain ⟨ta, hta⟩ : ∃ ta, ta = tornAt t := ⟨_, rfl⟩
        rw [← htn, ← hta] at H
        have HTN := Aside0.mk htn
        have HTA := Aside0.mk hta
        clear htn hta hdr
        have hil2 : (ps.length : Int) ≤ (i : Int) := by omega
        have c_x := H.out.cell (g := gx) mem0
        have c_z := H.out.cell (g := gz) mem2
        have z_z := H.out.frozen (g := gz) mem2
        go_wp2_with (first
 | ((with_reducible refine gate_store (t := 129) (p := 2) rfl ?_);
    refine put_box (rs1 := (box gx [.slice A1 (recR ds n0).length c1, .int .u64 (n0 : Int), .int .u64 (m : Int), .string tn, .int .i64 ta, .slice none 0 0] 129 :: row k62 62 (.slice A1 (recR ds n0).length c1) (recR ds n0) :: box gz [.slice A1 (recR ds n0).length c1, .int .u64 (n0 : Int), .int .u64 (m : Int), .string tn, .int .i64 ta, .slice none 0 0] 129 :: row k139 139 (.slice (some aq) (ps).length cq) ps :: marks mk)) rfl (t := 129) (p := 2) rfl rfl ?hr (H1 := (Sep.set2 (Sep.set2 (Sep.set2 (Sep.set2 (Sep.set2 (Sep.set2 H.out 0 (.slice A1 (recR ds n0).length c1) rfl) 1 (.int .u64 (n0 : Int)) rfl) 2 (.int .u64 (m : Int)) rfl) 3 (.string tn) rfl) 4 (.int .i64 ta) rfl) 5 (.slice none 0 0) rfl)) ?_;
    (case hr => first | (go_simp; done) | (go_simp; rfl));
    intro wd32 n_;
    clear H c_x c_z z_z;
    have H := n_;
    clear n_;
    have c_x := H.out.cell (g := gx) mem0;
    have c_z := H.out.cell (g := gz) mem2;
    have z_z := H.out.frozen (g := gz) mem2)
 | fail)
        rw [HTN.out, HTA.out] at H
        obtain rfl := HFE.out
        exact find_fin (ps := ps) (mk := mk) rfl (Sep.front2 (Sep.front1 (Sep.front2 (Sep.drop0 H.out)))) (fun w' h => Kd.C_nil _ _) (Nat.le_refl _)
end Go.Proofs.YtanonhipicoigaaGreatDoor.U
namespace Go.Proofs.YtanonhipicoigaaGreatDoor.U
open Go.RowKit Go.Proofs.YtanonhipicoigaaGreatDoorW.PrintWords Go.Proofs.YtanonhipicoigaaGreatDoorW.PrintLast Go.Proofs.YtanonhipicoigaaGreatDoorW.PrintMore Go.Proofs.YtanonhipicoigaaGreatDoor.Sp Go.Proofs.YtanonhipicoigaaGreatDoor.SegP
set_option linter.unusedVariables false
set_option linter.unusedSimpArgs false
/-- A call of a Go function that may panic. -/
theorem goesE_ {P : Program} {ops : Array Oper} {Q : Exit → Act → World → Prop} {oi : Oper} {N : Option Tmp} {a : Act} {w : World} {K : Act → World → Prop} {f : FuncId} {fn : Func} {aa : Array Operand} {ts : Array TypeId} (hf : P.funcs[f]? = some fn) (hname : (fn.name == "runtime.NumGoroutine") = false) (hb : fn.body.isSome = true) (args : Array Value)
    (hw : Region.wanted oi (yielded ops a.tmps) = true) (hN : oi.dst = N) (hop : oi.op = .call { callee := .value (.func f), args := aa, argTypes := ts }) (hargs : aa.map a.eval = args)
    (h : Calls P f args w fun e w' => (∃ v, e = .returned v ∧ K (a.put N v) w') ∨ (∃ ch, e = .panicked ch ∧ Q (.panic ch) a w')) : if Region.wanted oi (yielded ops a.tmps) = true then Oper.wp P oi a w K Q else K (a.put N undef) w := by
  rw [if_pos hw]
  subst hN
  have he := enters_ hf hname hb args w
  have hrun : (execOp a.eval oi).run P w = .ok (.enter f args) w := by
    unfold execOp
    simp [hop, resolve, Deferred.ofValue, invoke, Act.eval, hargs, he]
  unfold Oper.wp
  rw [hrun, Oper.upon_enter]
  refine h.mono fun e w'' hh => ?_
  rcases hh with ⟨v, rfl, hk⟩ | ⟨ch, rfl, hk⟩
  · exact hk
  · exact hk
/-- Files are removed, one by one; where one is not, the log is broken. -/
def rmAll : Lg → List Pl → Lg × Int
  | L, [] => (L, 0)
  | L, p :: r => if (removeF L.l L.dn L.fu L.fa p.1.f0).2.2.2.2 = 0 then rmAll (chg L (removeF L.l L.dn L.fu L.fa p.1.f0)) r else (chg L (removeF L.l L.dn L.fu L.fa p.1.f0), (removeF L.l L.dn L.fu L.fa p.1.f0).2.2.2.2)
def cutTorn (L : Lg) (t : Option (Pl × Nat)) : Lg × Int :=
  match t with
  | none => (L, 0)
  | some x => (chg L (cutF L.l L.dn L.fu L.fa x.1.1.f0 (x.2 : Int)), (cutF L.l L.dn L.fu L.fa x.1.1.f0 (x.2 : Int)).2.2.2.2)
/-- What Open's closure does with a log. -/
def openDo (L : Lg) (F : SegP.Fd) (n : Nat) : Lg × Int :=
  if (rmAll L F.gone.reverse).2 = 0 then
    if (cutTorn (rmAll L F.gone.reverse).1 F.torn).2 = 0 then ({ (cutTorn (rmAll L F.gone.reverse).1 F.torn).1 with fr := (n : Int), nx := (F.next : Int) }, 0)
    else cutTorn (rmAll L F.gone.reverse).1 F.torn
  else rmAll L F.gone.reverse
set_option maxHeartbeats 8000000 in
set_option maxRecDepth 100000 in
theorem open_do (b : World) (gl gf gv : Nat) {tn : ByteArray} {ta : Int} (L0 : Lg) (F : SegP.Fd) (n : Nat) (A1 A2 Aq : Option Addr) (nr c1 c2 cq : Nat) (ps : List Pl)
    (hC : ∀ W, Kd.C k139 W Aq ps.length ps → Kd.C k139 W A2 F.gone.length F.gone) (hlen : F.gone.length ≤ 64) (hn : tornName F.torn = tn) (ht : ∀ x, F.torn = some x → x.1.1.f0.toList ≠ []) (hta : tornAt F.torn = ta) :
    DoesL b gl 71 #[.pointer (some ⟨gf, 0, none⟩), .pointer (some ⟨gv, 0, none⟩)] L0 [box gf [.slice A1 nr c1, .int .u64 (n : Int), .int .u64 (F.next : Int), .string tn, .int .i64 (ta : Int), .slice A2 F.gone.length c2] 129, box gv [.pointer (some ⟨gl, 0, none⟩)] 131, row k139 139 (.slice Aq (ps).length cq) ps] (openDo L0 F n).1 (openDo L0 F n).2 := by
  intro A c w ts H0
  have HC := Aside0.mk hC
  have HT := Aside0.mk ht
  have HN := Aside0.mk hn
  have HA := Aside0.mk hta
  clear hC ht hn hta
  obtain ⟨g, hg⟩ : ∃ g, g = F.gone := ⟨_, rfl⟩
  rw [← hg] at hlen HC H0
  have HG := Aside0.mk hg
  clear hg
  have H : Aside0 (Sep b w (box gl [.slice A L0.l.length c, .bool L0.dn, .int .i64 L0.fu, .int .i64 L0.fa, .int .i64 L0.size, .int .u64 L0.fr, .int .u64 L0.nx, .bool L0.br] 134 :: row k67 67 (.slice A (L0.l).length c) L0.l :: box gf [.slice A1 nr c1, .int .u64 (n : Int), .int .u64 (F.next : Int), .string tn, .int .i64 ta, .slice A2 g.length c2] 129 :: box gv [.pointer (some ⟨gl, 0, none⟩)] 131 :: row k139 139 (.slice Aq (ps).length cq) ps :: ts)) := H0
  clear H0
  have c_l := H.out.cell (g := gl) mem0
  have z_l := H.out.frozen (g := gl) mem0
  have c_f := H.out.cell (g := gf) mem2
  have c_v := H.out.cell (g := gv) mem3
  go_enter Tryz.func71, Tryz.ntmps71
  go_wp2_with fail
  go_loopw [2] (fun v2 wr => ∃ (k : Nat) (L : Lg) (A : Option Addr) (c : Nat), v2 = .int .i64 ((k : Int) - 1) ∧ k ≤ g.length ∧ Aside0 (rmAll L0 g.reverse = rmAll L (g.take k).reverse) ∧ Aside0 (Sep b wr (box gl [.slice A L.l.length c, .bool L.dn, .int .i64 L.fu, .int .i64 L.fa, .int .i64 L.size, .int .u64 L.fr, .int .u64 L.nx, .bool L.br] 134 :: row k67 67 (.slice A (L.l).length c) L.l :: box gf [.slice A1 nr c1, .int .u64 (n : Int), .int .u64 (F.next : Int), .string tn, .int .i64 ta, .slice A2 g.length c2] 129 :: box gv [.pointer (some ⟨gl, 0, none⟩)] 131 :: row k139 139 (.slice Aq (ps).length cq) ps :: ts))) (fun v2 _ => ((intOf v2) + 1).toNat)
  case atStart => exact ⟨g.length, L0, A, c, rfl, Nat.le_refl _, ⟨by rw [List.take_length]⟩, H⟩
  case round =>
    clear H c_l z_l c_f c_v
    obtain ⟨k, L, A, c, rfl, hk, HR, H⟩ := hrel
    have c_l := H.out.cell (g := gl) mem0
    have z_l := H.out.frozen (g := gl) mem0
    have c_f := H.out.cell (g := gf) mem2
    have c_v := H.out.cell (g := gv) mem3
    cases k with
    | succ j =>
      obtain ⟨p, hp⟩ : ∃ p, g[j]? = some p := ⟨_, List.getElem?_eq_getElem (by omega)⟩
      rw [show (((j + 1 : Nat) : Int) - 1) = (j : Int) by omega]
      have HR2 : Aside0 (rmAll L0 g.reverse = rmAll L (p :: (g.take j).reverse)) := ⟨by rw [HR.out, List.take_add_one, hp]; simp⟩
      clear HR
      obtain ⟨ag, e1⟩ := row139 (HC.out _ (H.out.reads (A := Aq) mem4).2.2) (by omega)
      subst e1
      obtain ⟨h0, _, _, _⟩ := at139 (HC.out _ (H.out.reads (A := Aq) mem4).2.2) hp
      have HP := Aside0.mk hp
      clear hp
      have hj0 : (0 : Int) ≤ (j : Int) := by omega
      have hj1 : (j : Int) < (g.length : Int) := by omega
      obtain ⟨D, hD⟩ : ∃ D, D = removeF L.l L.dn L.fu L.fa p.1.f0 := ⟨_, rfl⟩
      have HD := Aside0.mk hD
      clear hD
      clear c_l z_l c_f c_v
      have c_l := H.out.cell (g := gl) mem0
      have z_l := H.out.frozen (g := gl) mem0
      have c_f := H.out.cell (g := gf) mem2
      have c_v := H.out.cell (g := gv) mem3
      go_upto_region 3 with fail
      refine start_ (n := 17) (S := fun w' => (∀ j : Nat, w'.cell? ⟨gv, j, none⟩ = [.pointer (some ⟨gl, 0, none⟩)][j]?) ∧ (∀ j : Nat, w'.cell? ⟨gl, j, none⟩ = [.slice A L.l.length c, .bool L.dn, .int .i64 L.fu, .int .i64 L.fa, .int .i64 L.size, .int .u64 L.fr, .int .u64 L.nx, .bool L.br][j]?) ∧ (∀ j : Nat, w'.cell? ⟨gf, j, none⟩ = [.slice A1 nr c1, .int .u64 (n : Int), .int .u64 (F.next : Int), .string tn, .int .i64 ta, .slice (some ag) g.length c2][j]?) ∧ w'.cell? (ag.add (j * 4)) = some (.string p.1.f0) ∧ Sp.Sep b w' (box gl [.slice A L.l.length c, .bool L.dn, .int .i64 L.fu, .int .i64 L.fa, .int .i64 L.size, .int .u64 L.fr, .int .u64 L.nx, .bool L.br] 134 :: row k67 67 (.slice A (L.l).length c) L.l :: box gf [.slice A1 nr c1, .int .u64 (n : Int), .int .u64 (F.next : Int), .string tn, .int .i64 ta, .slice (some ag) g.length c2] 129 :: box gv [.pointer (some ⟨gl, 0, none⟩)] 131 :: row k139 139 (.slice Aq (ps).length cq) ps :: ts)) (ds := [16]) #[false, false, false, false, false, false, false, false, false, false, false, false, false, false, false, false, false] (by kernel_rfl) rfl rfl ⟨(fun j => ((Sep.drew H.out)).cell (g := gv) mem3 j), (fun j => ((Sep.drew H.out)).cell (g := gl) mem0 j), (fun j => ((Sep.drew H.out)).cell (g := gf) mem2 j), (at139 (HC.out _ (Sep.reads (A := Aq) (Sep.drew H.out) mem4).2.2) HP.out).1, (Sep.drew H.out)⟩ (fun hHeld => ?_)
      refine pure_ (i := 6) (N := some 17) (v := ?_) (a' := ?_) #[false, false, false, false, false, false, true, false, false, false, false, false, false, false, false, false, false] rfl rfl (by kernel_rfl) (fun _ _ _ h => h) (Or.inl ⟨by rfl, ?_⟩) ?_ ?_
      rotate_left
      · intro w'
        go_simp
        with_reducible rfl
      rotate_left
      · simp only [Act.put, List.setIfInBounds_toArray, List.set_cons_zero, List.set_cons_succ, i64_w, i32_w]
        rfl
      refine pure_ (i := 8) (N := some 19) (v := ?_) (a' := ?_) #[false, false, false, false, false, false, true, false, true, false, false, false, false, false, false, false, false] rfl rfl (by kernel_rfl) (fun _ _ _ h => h) (Or.inl ⟨by rfl, ?_⟩) ?_ ?_
      rotate_left
      · intro w'
        go_simp
        with_reducible rfl
      rotate_left
      · simp only [Act.put, List.setIfInBounds_toArray, List.set_cons_zero, List.set_cons_succ, i64_w, i32_w]
        rfl
      refine take_ (i := 0) (N := some 11) (v := ?_) (a' := ?_) #[true, false, false, false, false, false, true, false, true, false, false, false, false, false, false, false, false] rfl rfl (by kernel_rfl) (fun _ _ _ h => h) (Or.inl ⟨by rfl, ?_⟩) hHeld ?_ ?_
      rotate_left
      · rintro w' ⟨s0, s1, s2, s3, s4⟩
        go_simp
        with_reducible rfl
      rotate_left
      · simp only [Act.put, List.setIfInBounds_toArray, List.set_cons_zero, List.set_cons_succ, i64_w, i32_w]
        rfl
      refine take_ (i := 1) (N := some 12) (v := ?_) (a' := ?_) #[true, true, false, false, false, false, true, false, true, false, false, false, false, false, false, false, false] rfl rfl (by kernel_rfl) (fun _ _ _ h => h) (Or.inl ⟨by rfl, ?_⟩) hHeld ?_ ?_
      rotate_left
      · rintro w' ⟨s0, s1, s2, s3, s4⟩
        go_simp
        with_reducible rfl
      rotate_left
      · simp only [Act.put, List.setIfInBounds_toArray, List.set_cons_zero, List.set_cons_succ, i64_w, i32_w]
        rfl
      refine pure_ (i := 2) (N := some 13) (v := ?_) (a' := ?_) #[true, true, true, false, false, false, true, false, true, false, false, false, false, false, false, false, false] rfl rfl (by kernel_rfl) (fun _ _ _ h => h) (Or.inl ⟨by rfl, ?_⟩) ?_ ?_
      rotate_left
      · intro w'
        go_simp
        with_reducible rfl
      rotate_left
      · simp only [Act.put, List.setIfInBounds_toArray, List.set_cons_zero, List.set_cons_succ, i64_w, i32_w]
        rfl
      refine pure_ (i := 3) (N := some 14) (v := ?_) (a' := ?_) #[true, true, true, true, false, false, true, false, true, false, false, false, false, false, false, false, false] rfl rfl (by kernel_rfl) (fun _ _ _ h => h) (Or.inl ⟨by rfl, ?_⟩) ?_ ?_
      rotate_left
      · intro w'
        go_simp
        with_reducible rfl
      rotate_left
      · simp only [Act.put, List.setIfInBounds_toArray, List.set_cons_zero, List.set_cons_succ, i64_w, i32_w]
        rfl
      refine pure_ (i := 4) (N := some 15) (v := ?_) (a' := ?_) #[true, true, true, true, true, false, true, false, true, false, false, false, false, false, false, false, false] rfl rfl (by kernel_rfl) (fun _ _ _ h => h) (Or.inl ⟨by rfl, ?_⟩) ?_ ?_
      rotate_left
      · intro w'
        go_simp
        with_reducible rfl
      rotate_left
      · simp only [Act.put, List.setIfInBounds_toArray, List.set_cons_zero, List.set_cons_succ, i64_w, i32_w]
        rfl
      refine take_ (i := 5) (N := some 16) (v := ?_) (a' := ?_) #[true, true, true, true, true, true, true, false, true, false, false, false, false, false, false, false, false] rfl rfl (by kernel_rfl) (fun _ _ _ h => h) (Or.inl ⟨by rfl, ?_⟩) hHeld ?_ ?_
      rotate_left
      · rintro w' ⟨s0, s1, s2, s3, s4⟩
        go_simp
        with_reducible rfl
      rotate_left
      · simp only [Act.put, List.setIfInBounds_toArray, List.set_cons_zero, List.set_cons_succ, i64_w, i32_w]
        rfl
      refine take_ (i := 7) (N := some 18) (v := ?_) (a' := ?_) #[true, true, true, true, true, true, true, true, true, false, false, false, false, false, false, false, false] rfl rfl (by kernel_rfl) (fun _ _ _ h => h) (Or.inl ⟨by rfl, ?_⟩) hHeld ?_ ?_
      rotate_left
      · rintro w' ⟨s0, s1, s2, s3, s4⟩
        go_simp
        with_reducible rfl
      rotate_left
      · simp only [Act.put, List.setIfInBounds_toArray, List.set_cons_zero, List.set_cons_succ, i64_w, i32_w]
        rfl
      refine pure_ (i := 9) (N := some 20) (v := ?_) (a' := ?_) #[true, true, true, true, true, true, true, true, true, true, false, false, false, false, false, false, false] rfl rfl (by kernel_rfl) (fun _ _ _ h => h) (Or.inl ⟨by rfl, ?_⟩) ?_ ?_
      rotate_left
      · intro w'
        go_simp
        with_reducible rfl
      rotate_left
      · simp only [Act.put, List.setIfInBounds_toArray, List.set_cons_zero, List.set_cons_succ, i64_w, i32_w]
        rfl
      refine pure_ (i := 10) (N := some 21) (v := ?_) (a' := ?_) #[true, true, true, true, true, true, true, true, true, true, true, false, false, false, false, false, false] rfl rfl (by kernel_rfl) (fun _ _ _ h => h) (Or.inl ⟨by rfl, ?_⟩) ?_ ?_
      rotate_left
      · intro w'
        go_simp
        with_reducible rfl
      rotate_left
      · simp only [Act.put, List.setIfInBounds_toArray, List.set_cons_zero, List.set_cons_succ, i64_w, i32_w]
        rfl
      refine pure_ (i := 11) (N := some 22) (v := ?_) (a' := ?_) #[true, true, true, true, true, true, true, true, true, true, true, true, false, false, false, false, false] rfl rfl (by kernel_rfl) (fun _ _ _ h => h) (Or.inl ⟨by rfl, ?_⟩) ?_ ?_
      rotate_left
      · intro w'
        go_simp
        with_reducible rfl
      rotate_left
      · simp only [Act.put, List.setIfInBounds_toArray, List.set_cons_zero, List.set_cons_succ, i64_w, i32_w]
        rfl
      refine take_ (i := 12) (N := some 23) (v := ?_) (a' := ?_) #[true, true, true, true, true, true, true, true, true, true, true, true, true, false, false, false, false] rfl rfl (by kernel_rfl) (fun _ _ _ h => h) (Or.inl ⟨by rfl, ?_⟩) hHeld ?_ ?_
      rotate_left
      · rintro w' ⟨s0, s1, s2, s3, s4⟩
        go_simp
        with_reducible rfl
      rotate_left
      · simp only [Act.put, List.setIfInBounds_toArray, List.set_cons_zero, List.set_cons_succ, i64_w, i32_w]
        rfl
      refine one_ (i := 13) (N := some 24) #[true, true, true, true, true, true, true, true, true, true, true, true, true, true, false, false, false] rfl rfl (by kernel_rfl) (by decide) (fun K hK => ?_)
      refine goes_ Tryz.func73 (by kernel_rfl) rfl #[.agg #[.slice A L.l.length c, .bool L.dn, .int .i64 L.fu, .int .i64 L.fa], .string p.1.f0] (by rfl) rfl rfl (by simp only [List.map_toArray, List.map_cons, List.map_nil]; rfl) ?_
      with_reducible refine (disk_Remove.calls A c L.l L.dn L.fu L.fa p.1.f0 D.1 D.2.1 D.2.2.1 D.2.2.2.1 D.2.2.2.2 _ (Sep.reads hHeld.2.2.2.2 mem1).2.2 (Sep.reads hHeld.2.2.2.2 mem1).2.1 (by rw [disk_Remove_eq, ← HD.out])).mono ?_
      rintro e w3 ⟨v_, rfl, ho_, hb_⟩
      obtain ⟨A3, c3, eo_⟩ := Kd.R_slice ho_
      subst eo_
      have HN3 := Aside0.mk (Sep.push_row hHeld.2.2.2.2 hb_ ho_ k67_flat)
      refine ⟨_, rfl, ?_⟩
      refine hK.out _ _ ⟨(fun j => ((Sep.step hHeld.2.2.2.2 hb_)).cell (g := gv) mem3 j), (fun j => ((Sep.step hHeld.2.2.2.2 hb_)).cell (g := gl) mem0 j), (fun j => ((Sep.step hHeld.2.2.2.2 hb_)).cell (g := gf) mem2 j), (at139 (HC.out _ (Sep.reads (A := Aq) (Sep.step hHeld.2.2.2.2 hb_) mem4).2.2) HP.out).1, (Sep.step hHeld.2.2.2.2 hb_)⟩ (fun hHeld => ?_)
      clear hK K
      refine norm_ (a' := ?_) ?_ ?_
      rotate_left
      · show Act.put _ (some 24) _ = _
        simp only [Act.put, List.setIfInBounds_toArray, List.set_cons_zero, List.set_cons_succ, i64_w, i32_w]
        rfl
      refine pure_ (i := 14) (N := some 25) (v := ?_) (a' := ?_) #[true, true, true, true, true, true, true, true, true, true, true, true, true, true, true, false, false] rfl rfl (by kernel_rfl) (fun _ _ _ h => h) (Or.inl ⟨by rfl, ?_⟩) ?_ ?_
      rotate_left
      · intro w'
        go_simp
        with_reducible rfl
      rotate_left
      · simp only [Act.put, List.setIfInBounds_toArray, List.set_cons_zero, List.set_cons_succ, i64_w, i32_w]
        rfl
      refine pure_ (i := 15) (N := some 26) (v := ?_) (a' := ?_) #[true, true, true, true, true, true, true, true, true, true, true, true, true, true, true, true, false] rfl rfl (by kernel_rfl) (fun _ _ _ h => h) (Or.inl ⟨by rfl, ?_⟩) ?_ ?_
      rotate_left
      · intro w'
        go_simp
        with_reducible rfl
      rotate_left
      · simp only [Act.put, List.setIfInBounds_toArray, List.set_cons_zero, List.set_cons_succ, i64_w, i32_w]
        rfl
      refine last_ (i := 16) (N := some 27) #[true, true, true, true, true, true, true, true, true, true, true, true, true, true, true, true, true] rfl rfl (by kernel_rfl) (by decide) (fun K hK => ?_)
      refine goesE_ Tryz.func72 (by kernel_rfl) rfl #[.pointer (some ⟨gl, 0, none⟩), .agg #[.slice A3 D.1.length c3, .bool D.2.1, .int .i64 D.2.2.1, .int .i64 D.2.2.2.1], .int .i64 D.2.2.2.2] (by rfl) rfl rfl (by simp only [List.map_toArray, List.map_cons, List.map_nil]; rfl) ?_
      refine (change_any gl A c L A3 c3 D (rs := rowF A3 c3 D.1 :: (row k67 67 (.slice A (L.l).length c) L.l :: box gf [.slice A1 nr c1, .int .u64 (n : Int), .int .u64 (F.next : Int), .string tn, .int .i64 ta, .slice (some ag) g.length c2] 129 :: box gv [.pointer (some ⟨gl, 0, none⟩)] 131 :: row k139 139 (.slice Aq (ps).length cq) ps :: ts)) ⟨HN3.out.front1⟩).mono ?_
      rintro e w4 ⟨hE, H4⟩
      rcases hE with ⟨hz, rfl⟩ | ⟨hnz, rfl⟩
      rotate_left
      · refine .inr ⟨_, rfl, ?_⟩
        show _ ∧ _
        have hOD : openDo L0 F n = (chg L D, D.2.2.2.2) := by rw [openDo, ← HG.out, HR2.out, rmAll, ← HD.out, if_neg hnz, if_neg hnz]
        rw [hOD, ← HG.out]
        exact ⟨rfl, .inr ⟨hnz, rfl⟩, A3, c3, ⟨H4.out.drop2⟩⟩
      refine .inl ⟨_, rfl, ?_⟩
      refine hK.out _ _ ?_
      clear hK K
      refine norm_ (a' := ?_) ?_ ?_
      rotate_left
      · show Act.put _ (some 27) _ = _
        simp only [Act.put, List.setIfInBounds_toArray, List.set_cons_zero, List.set_cons_succ, i64_w, i32_w]
        rfl
      refine done_ (by kernel_rfl) ?_
      go_wp2
      refine ⟨⟨j, chg L D, A3, c3, rfl, by omega, ⟨?_⟩, ⟨H4.out.drop2⟩⟩, by simp [intOf]⟩
      rw [HR2.out, rmAll, ← HD.out, if_pos hz]
    | zero =>
      have hR : rmAll L0 g.reverse = (L, 0) := by rw [HR.out]; rfl
      have HRR := Aside0.mk hR
      clear HR hR
      simp only [Int.natCast_zero, Int.zero_sub]
      cases hto : F.torn with
      | none =>
        have htn : tn = ⟨#[]⟩ := by rw [← HN.out, hto]; rfl
        subst htn
        go_wp2_with (first
 | ((with_reducible refine gate_store (t := 28) (p := 53) rfl ?_);
    refine put_box (rs1 := (box gl [.slice A L.l.length c, .bool L.dn, .int .i64 L.fu, .int .i64 L.fa, .int .i64 L.size, .int .u64 (n : Int), .int .u64 L.nx, .bool L.br] 134 :: row k67 67 (.slice A (L.l).length c) L.l :: box gf [.slice A1 nr c1, .int .u64 (n : Int), .int .u64 (F.next : Int), .string ⟨#[]⟩, .int .i64 ta, .slice A2 g.length c2] 129 :: box gv [.pointer (some ⟨gl, 0, none⟩)] 131 :: row k139 139 (.slice Aq (ps).length cq) ps :: ts)) rfl (t := 28) (p := 53) rfl rfl ?hr (H1 := (Sep.set0 H.out 5 (.int .u64 (n : Int)) rfl)) ?_;
    (case hr => first | (go_simp; done) | (go_simp; rfl));
    intro wd1 n_;
    clear H c_l z_l c_f c_v;
    have H := n_;
    clear n_;
    have c_l := H.out.cell (g := gl) mem0;
    have z_l := H.out.frozen (g := gl) mem0;
    have c_f := H.out.cell (g := gf) mem2;
    have c_v := H.out.cell (g := gv) mem3)
 | ((with_reducible refine gate_store (t := 28) (p := 56) rfl ?_);
    refine put_box (rs1 := (box gl [.slice A L.l.length c, .bool L.dn, .int .i64 L.fu, .int .i64 L.fa, .int .i64 L.size, .int .u64 (n : Int), .int .u64 (F.next : Int), .bool L.br] 134 :: row k67 67 (.slice A (L.l).length c) L.l :: box gf [.slice A1 nr c1, .int .u64 (n : Int), .int .u64 (F.next : Int), .string ⟨#[]⟩, .int .i64 ta, .slice A2 g.length c2] 129 :: box gv [.pointer (some ⟨gl, 0, none⟩)] 131 :: row k139 139 (.slice Aq (ps).length cq) ps :: ts)) rfl (t := 28) (p := 56) rfl rfl ?hr (H1 := (Sep.set0 H.out 6 (.int .u64 (F.next : Int)) rfl)) ?_;
    (case hr => first | (go_simp; done) | (go_simp; rfl));
    intro wd2 n_;
    clear H c_l z_l c_f c_v;
    have H := n_;
    clear n_;
    have c_l := H.out.cell (g := gl) mem0;
    have z_l := H.out.frozen (g := gl) mem0;
    have c_f := H.out.cell (g := gf) mem2;
    have c_v := H.out.cell (g := gv) mem3)
 | fail)
        go_end0
        have hOD : openDo L0 F n = ({ L with fr := (n : Int), nx := (F.next : Int) }, 0) := by
          rw [openDo, ← HG.out, HRR.out, if_pos rfl, hto, cutTorn, if_pos rfl]
        rw [hOD, ← HG.out]
        exact ⟨.inl ⟨rfl, rfl⟩, A, c, H⟩
      | some x =>
        have hne := HT.out x hto
        have htn : tn = x.1.1.f0 := by rw [← HN.out, hto]; rfl
        have hta : ta = (x.2 : Int) := by rw [← HA.out, hto]; rfl
        rw [← htn] at hne
        have hnb : (tn.toList == ([] : List UInt8)) = false := beq_eq_false_iff_ne.2 hne
        obtain ⟨D, hD⟩ : ∃ D, D = cutF L.l L.dn L.fu L.fa tn ta := ⟨_, rfl⟩
        have HD := Aside0.mk hD
        have hct : cutTorn L F.torn = (chg L D, D.2.2.2.2) := by rw [hto, cutTorn, hD, htn, hta]
        have HCT := Aside0.mk hct
        clear hD hct htn hta hne
        go_upto_region 5 with fail
        refine start_ (n := 14) (S := fun w' => (∀ j : Nat, w'.cell? ⟨gv, j, none⟩ = [.pointer (some ⟨gl, 0, none⟩)][j]?) ∧ (∀ j : Nat, w'.cell? ⟨gl, j, none⟩ = [.slice A L.l.length c, .bool L.dn, .int .i64 L.fu, .int .i64 L.fa, .int .i64 L.size, .int .u64 L.fr, .int .u64 L.nx, .bool L.br][j]?) ∧ (∀ j : Nat, w'.cell? ⟨gf, j, none⟩ = [.slice A1 nr c1, .int .u64 (n : Int), .int .u64 (F.next : Int), .string tn, .int .i64 ta, .slice A2 g.length c2][j]?) ∧ Sp.Sep b w' (box gl [.slice A L.l.length c, .bool L.dn, .int .i64 L.fu, .int .i64 L.fa, .int .i64 L.size, .int .u64 L.fr, .int .u64 L.nx, .bool L.br] 134 :: row k67 67 (.slice A (L.l).length c) L.l :: box gf [.slice A1 nr c1, .int .u64 (n : Int), .int .u64 (F.next : Int), .string tn, .int .i64 ta, .slice A2 g.length c2] 129 :: box gv [.pointer (some ⟨gl, 0, none⟩)] 131 :: row k139 139 (.slice Aq (ps).length cq) ps :: ts)) (ds := [13]) #[false, false, false, false, false, false, false, false, false, false, false, false, false, false] (by kernel_rfl) rfl rfl ⟨(fun j => ((Sep.drew H.out)).cell (g := gv) mem3 j), (fun j => ((Sep.drew H.out)).cell (g := gl) mem0 j), (fun j => ((Sep.drew H.out)).cell (g := gf) mem2 j), (Sep.drew H.out)⟩ (fun hHeld => ?_)
        refine pure_ (i := 6) (N := some 37) (v := ?_) (a' := ?_) #[false, false, false, false, false, false, true, false, false, false, false, false, false, false] rfl rfl (by kernel_rfl) (fun _ _ _ h => h) (Or.inl ⟨by rfl, ?_⟩) ?_ ?_
        rotate_left
        · intro w'
          go_simp
          with_reducible rfl
        rotate_left
        · simp only [Act.put, List.setIfInBounds_toArray, List.set_cons_zero, List.set_cons_succ, i64_w, i32_w]
          rfl
        refine pure_ (i := 8) (N := some 39) (v := ?_) (a' := ?_) #[false, false, false, false, false, false, true, false, true, false, false, false, false, false] rfl rfl (by kernel_rfl) (fun _ _ _ h => h) (Or.inl ⟨by rfl, ?_⟩) ?_ ?_
        rotate_left
        · intro w'
          go_simp
          with_reducible rfl
        rotate_left
        · simp only [Act.put, List.setIfInBounds_toArray, List.set_cons_zero, List.set_cons_succ, i64_w, i32_w]
          rfl
        refine take_ (i := 0) (N := some 31) (v := ?_) (a' := ?_) #[true, false, false, false, false, false, true, false, true, false, false, false, false, false] rfl rfl (by kernel_rfl) (fun _ _ _ h => h) (Or.inl ⟨by rfl, ?_⟩) hHeld ?_ ?_
        rotate_left
        · rintro w' ⟨s0, s1, s2, s3⟩
          go_simp
          with_reducible rfl
        rotate_left
        · simp only [Act.put, List.setIfInBounds_toArray, List.set_cons_zero, List.set_cons_succ, i64_w, i32_w]
          rfl
        refine take_ (i := 1) (N := some 32) (v := ?_) (a' := ?_) #[true, true, false, false, false, false, true, false, true, false, false, false, false, false] rfl rfl (by kernel_rfl) (fun _ _ _ h => h) (Or.inl ⟨by rfl, ?_⟩) hHeld ?_ ?_
        rotate_left
        · rintro w' ⟨s0, s1, s2, s3⟩
          go_simp
          with_reducible rfl
        rotate_left
        · simp only [Act.put, List.setIfInBounds_toArray, List.set_cons_zero, List.set_cons_succ, i64_w, i32_w]
          rfl
        refine pure_ (i := 2) (N := some 33) (v := ?_) (a' := ?_) #[true, true, true, false, false, false, true, false, true, false, false, false, false, false] rfl rfl (by kernel_rfl) (fun _ _ _ h => h) (Or.inl ⟨by rfl, ?_⟩) ?_ ?_
        rotate_left
        · intro w'
          go_simp
          with_reducible rfl
        rotate_left
        · simp only [Act.put, List.setIfInBounds_toArray, List.set_cons_zero, List.set_cons_succ, i64_w, i32_w]
          rfl
        refine pure_ (i := 3) (N := some 34) (v := ?_) (a' := ?_) #[true, true, true, true, false, false, true, false, true, false, false, false, false, false] rfl rfl (by kernel_rfl) (fun _ _ _ h => h) (Or.inl ⟨by rfl, ?_⟩) ?_ ?_
        rotate_left
        · intro w'
          go_simp
          with_reducible rfl
        rotate_left
        · simp only [Act.put, List.setIfInBounds_toArray, List.set_cons_zero, List.set_cons_succ, i64_w, i32_w]
          rfl
        refine pure_ (i := 4) (N := some 35) (v := ?_) (a' := ?_) #[true, true, true, true, true, false, true, false, true, false, false, false, false, false] rfl rfl (by kernel_rfl) (fun _ _ _ h => h) (Or.inl ⟨by rfl, ?_⟩) ?_ ?_
        rotate_left
        · intro w'
          go_simp
          with_reducible rfl
        rotate_left
        · simp only [Act.put, List.setIfInBounds_toArray, List.set_cons_zero, List.set_cons_succ, i64_w, i32_w]
          rfl
        refine take_ (i := 5) (N := some 36) (v := ?_) (a' := ?_) #[true, true, true, true, true, true, true, false, true, false, false, false, false, false] rfl rfl (by kernel_rfl) (fun _ _ _ h => h) (Or.inl ⟨by rfl, ?_⟩) hHeld ?_ ?_
        rotate_left
        · rintro w' ⟨s0, s1, s2, s3⟩
          go_simp
          with_reducible rfl
        rotate_left
        · simp only [Act.put, List.setIfInBounds_toArray, List.set_cons_zero, List.set_cons_succ, i64_w, i32_w]
          rfl
        refine take_ (i := 7) (N := some 38) (v := ?_) (a' := ?_) #[true, true, true, true, true, true, true, true, true, false, false, false, false, false] rfl rfl (by kernel_rfl) (fun _ _ _ h => h) (Or.inl ⟨by rfl, ?_⟩) hHeld ?_ ?_
        rotate_left
        · rintro w' ⟨s0, s1, s2, s3⟩
          go_simp
          with_reducible rfl
        rotate_left
        · simp only [Act.put, List.setIfInBounds_toArray, List.set_cons_zero, List.set_cons_succ, i64_w, i32_w]
          rfl
        refine take_ (i := 9) (N := some 40) (v := ?_) (a' := ?_) #[true, true, true, true, true, true, true, true, true, true, false, false, false, false] rfl rfl (by kernel_rfl) (fun _ _ _ h => h) (Or.inl ⟨by rfl, ?_⟩) hHeld ?_ ?_
        rotate_left
        · rintro w' ⟨s0, s1, s2, s3⟩
          go_simp
          with_reducible rfl
        rotate_left
        · simp only [Act.put, List.setIfInBounds_toArray, List.set_cons_zero, List.set_cons_succ, i64_w, i32_w]
          rfl
        refine one_ (i := 10) (N := some 41) #[true, true, true, true, true, true, true, true, true, true, true, false, false, false] rfl rfl (by kernel_rfl) (by decide) (fun K hK => ?_)
        refine goes_ Tryz.func74 (by kernel_rfl) rfl #[.agg #[.slice A L.l.length c, .bool L.dn, .int .i64 L.fu, .int .i64 L.fa], .string tn, .int .i64 ta] (by rfl) rfl rfl (by simp only [List.map_toArray, List.map_cons, List.map_nil]; rfl) ?_
        with_reducible refine (disk_Cut.calls A c L.l L.dn L.fu L.fa tn ta D.1 D.2.1 D.2.2.1 D.2.2.2.1 D.2.2.2.2 _ (Sep.reads hHeld.2.2.2 mem1).2.2 (Sep.reads hHeld.2.2.2 mem1).2.1 (by rw [disk_Cut_eq, ← HD.out])).mono ?_
        rintro e w3 ⟨v_, rfl, ho_, hb_⟩
        obtain ⟨A3, c3, eo_⟩ := Kd.R_slice ho_
        subst eo_
        have HN3 := Aside0.mk (Sep.push_row hHeld.2.2.2 hb_ ho_ k67_flat)
        refine ⟨_, rfl, ?_⟩
        refine hK.out _ _ ⟨(fun j => ((Sep.step hHeld.2.2.2 hb_)).cell (g := gv) mem3 j), (fun j => ((Sep.step hHeld.2.2.2 hb_)).cell (g := gl) mem0 j), (fun j => ((Sep.step hHeld.2.2.2 hb_)).cell (g := gf) mem2 j), (Sep.step hHeld.2.2.2 hb_)⟩ (fun hHeld => ?_)
        clear hK K
        refine norm_ (a' := ?_) ?_ ?_
        rotate_left
        · show Act.put _ (some 41) _ = _
          simp only [Act.put, List.setIfInBounds_toArray, List.set_cons_zero, List.set_cons_succ, i64_w, i32_w]
          rfl
        refine pure_ (i := 11) (N := some 42) (v := ?_) (a' := ?_) #[true, true, true, true, true, true, true, true, true, true, true, true, false, false] rfl rfl (by kernel_rfl) (fun _ _ _ h => h) (Or.inl ⟨by rfl, ?_⟩) ?_ ?_
        rotate_left
        · intro w'
          go_simp
          with_reducible rfl
        rotate_left
        · simp only [Act.put, List.setIfInBounds_toArray, List.set_cons_zero, List.set_cons_succ, i64_w, i32_w]
          rfl
        refine pure_ (i := 12) (N := some 43) (v := ?_) (a' := ?_) #[true, true, true, true, true, true, true, true, true, true, true, true, true, false] rfl rfl (by kernel_rfl) (fun _ _ _ h => h) (Or.inl ⟨by rfl, ?_⟩) ?_ ?_
        rotate_left
        · intro w'
          go_simp
          with_reducible rfl
        rotate_left
        · simp only [Act.put, List.setIfInBounds_toArray, List.set_cons_zero, List.set_cons_succ, i64_w, i32_w]
          rfl
        refine last_ (i := 13) (N := some 44) #[true, true, true, true, true, true, true, true, true, true, true, true, true, true] rfl rfl (by kernel_rfl) (by decide) (fun K hK => ?_)
        refine goesE_ Tryz.func72 (by kernel_rfl) rfl #[.pointer (some ⟨gl, 0, none⟩), .agg #[.slice A3 D.1.length c3, .bool D.2.1, .int .i64 D.2.2.1, .int .i64 D.2.2.2.1], .int .i64 D.2.2.2.2] (by rfl) rfl rfl (by simp only [List.map_toArray, List.map_cons, List.map_nil]; rfl) ?_
        refine (change_any gl A c L A3 c3 D (rs := rowF A3 c3 D.1 :: (row k67 67 (.slice A (L.l).length c) L.l :: box gf [.slice A1 nr c1, .int .u64 (n : Int), .int .u64 (F.next : Int), .string tn, .int .i64 ta, .slice A2 g.length c2] 129 :: box gv [.pointer (some ⟨gl, 0, none⟩)] 131 :: row k139 139 (.slice Aq (ps).length cq) ps :: ts)) ⟨HN3.out.front1⟩).mono ?_
        rintro e w4 ⟨hE, H4⟩
        rcases hE with ⟨hz, rfl⟩ | ⟨hnz, rfl⟩
        rotate_left
        · refine .inr ⟨_, rfl, ?_⟩
          show _ ∧ _
          have hOD : openDo L0 F n = (chg L D, D.2.2.2.2) := by rw [openDo, ← HG.out, HRR.out, if_pos rfl, HCT.out, if_neg hnz]
          rw [hOD, ← HG.out]
          exact ⟨rfl, .inr ⟨hnz, rfl⟩, A3, c3, ⟨H4.out.drop2⟩⟩
        refine .inl ⟨_, rfl, ?_⟩
        refine hK.out _ _ ?_
        clear hK K
        refine norm_ (a' := ?_) ?_ ?_
        rotate_left
        · show Act.put _ (some 44) _ = _
          simp only [Act.put, List.setIfInBounds_toArray, List.set_cons_zero, List.set_cons_succ, i64_w, i32_w]
          rfl
        refine done_ (by kernel_rfl) ?_
        clear c_l z_l c_f c_v H
        have H : Aside0 (Sep b w4 (box gl [.slice A3 D.1.length c3, .bool D.2.1, .int .i64 D.2.2.1, .int .i64 D.2.2.2.1, .int .i64 L.size, .int .u64 L.fr, .int .u64 L.nx, .bool (if D.2.2.2.2 = 0 then L.br else true)] 134 :: row k67 67 (.slice A3 (D.1).length c3) D.1 :: box gf [.slice A1 nr c1, .int .u64 (n : Int), .int .u64 (F.next : Int), .string tn, .int .i64 ta, .slice A2 g.length c2] 129 :: box gv [.pointer (some ⟨gl, 0, none⟩)] 131 :: row k139 139 (.slice Aq (ps).length cq) ps :: ts)) := ⟨H4.out.drop2⟩
        clear H4 HN3
        have c_l := H.out.cell (g := gl) mem0
        have z_l := H.out.frozen (g := gl) mem0
        have c_f := H.out.cell (g := gf) mem2
        have c_v := H.out.cell (g := gv) mem3
        go_wp2_with (first
 | ((with_reducible refine gate_store (t := 28) (p := 53) rfl ?_);
    refine put_box (rs1 := (box gl [.slice A3 D.1.length c3, .bool D.2.1, .int .i64 D.2.2.1, .int .i64 D.2.2.2.1, .int .i64 L.size, .int .u64 (n : Int), .int .u64 L.nx, .bool (if D.2.2.2.2 = 0 then L.br else true)] 134 :: row k67 67 (.slice A3 (D.1).length c3) D.1 :: box gf [.slice A1 nr c1, .int .u64 (n : Int), .int .u64 (F.next : Int), .string tn, .int .i64 ta, .slice A2 g.length c2] 129 :: box gv [.pointer (some ⟨gl, 0, none⟩)] 131 :: row k139 139 (.slice Aq (ps).length cq) ps :: ts)) rfl (t := 28) (p := 53) rfl rfl ?hr (H1 := (Sep.set0 H.out 5 (.int .u64 (n : Int)) rfl)) ?_;
    (case hr => first | (go_simp; done) | (go_simp; rfl));
    intro wd3 n_;
    clear H c_l z_l c_f c_v;
    have H := n_;
    clear n_;
    have c_l := H.out.cell (g := gl) mem0;
    have z_l := H.out.frozen (g := gl) mem0;
    have c_f := H.out.cell (g := gf) mem2;
    have c_v := H.out.cell (g := gv) mem3)
 | ((with_reducible refine gate_store (t := 28) (p := 56) rfl ?_);
    refine put_box (rs1 := (box gl [.slice A3 D.1.length c3, .bool D.2.1, .int .i64 D.2.2.1, .int .i64 D.2.2.2.1, .int .i64 L.size, .int .u64 (n : Int), .int .u64 (F.next : Int), .bool (if D.2.2.2.2 = 0 then L.br else true)] 134 :: row k67 67 (.slice A3 (D.1).length c3) D.1 :: box gf [.slice A1 nr c1, .int .u64 (n : Int), .int .u64 (F.next : Int), .string tn, .int .i64 ta, .slice A2 g.length c2] 129 :: box gv [.pointer (some ⟨gl, 0, none⟩)] 131 :: row k139 139 (.slice Aq (ps).length cq) ps :: ts)) rfl (t := 28) (p := 56) rfl rfl ?hr (H1 := (Sep.set0 H.out 6 (.int .u64 (F.next : Int)) rfl)) ?_;
    (case hr => first | (go_simp; done) | (go_simp; rfl));
    intro wd4 n_;
    clear H c_l z_l c_f c_v;
    have H := n_;
    clear n_;
    have c_l := H.out.cell (g := gl) mem0;
    have z_l := H.out.frozen (g := gl) mem0;
    have c_f := H.out.cell (g := gf) mem2;
    have c_v := H.out.cell (g := gv) mem3)
 | fail)
        go_end0
        have hOD : openDo L0 F n = ({ chg L D with fr := (n : Int), nx := (F.next : Int) }, 0) := by
          rw [openDo, ← HG.out, HRR.out, if_pos rfl, HCT.out, if_pos hz]
        rw [hOD, ← HG.out]
        exact ⟨.inl ⟨rfl, rfl⟩, A3, c3, H⟩
end Go.Proofs.YtanonhipicoigaaGreatDoor.U
namespace Go.Proofs.YtanonhipicoigaaGreatDoor.U
open Go.RowKit Go.Proofs.YtanonhipicoigaaGreatDoorW.PrintWords Go.Proofs.YtanonhipicoigaaGreatDoorW.PrintLast Go.Proofs.YtanonhipicoigaaGreatDoorW.PrintMore Go.Proofs.YtanonhipicoigaaGreatDoor.Sp Go.Proofs.YtanonhipicoigaaGreatDoor.SegP
set_option linter.unusedVariables false
set_option linter.unusedSimpArgs false
theorem doesL_frame {b : World} {gl fdo : Nat} {lb : Array Value} {L : Lg} {rs : List Res} {R : Lg} {n : Int} (h : DoesL b gl fdo lb L rs R n) (more : List Res) : DoesL b gl fdo lb L (rs ++ more) R n := by
  intro A c w ts H
  rw [List.append_assoc] at H ⊢
  exact h A c w (more ++ ts) H
theorem goF_gone_len (S : Sum) (ps : List Pl) (n : Nat) : (goF S ps n).gone.length ≤ ps.length := by
  obtain ⟨kept, ds, m, hc, hh⟩ := goF_spec S ps n
  rcases hh with ⟨_, a2, _⟩ | ⟨p, e, dt, _, a2, _⟩
  · have := congrArg List.length a2
    rw [List.length_append] at this
    omega
  · have := congrArg List.length a2
    rw [List.length_append, List.length_cons] at this
    omega
theorem sep_ne {b w : World} {rs : List Res} (H : Sep b w rs) {i j g g' : Nat} {cs cs' : List Value} {t t' : TypeId} (hi : rs[i]? = some (box g cs t)) (hj : rs[j]? = some (box g' cs' t')) (hij : i < j) : ¬ g = g' := by
  obtain ⟨h1, e1⟩ := List.getElem?_eq_some_iff.1 hi
  obtain ⟨h2, e2⟩ := List.getElem?_eq_some_iff.1 hj
  have h := List.pairwise_iff_getElem.1 H.apart i j h1 h2 hij
  rw [e1, e2] at h
  exact fun e => h g rfl e
def Lz : Lg := ⟨[], false, 0, 0, 0, 0, 0, false⟩
/-- What is found of files. -/
noncomputable def findF (l : List S67) : SegP.Fd := goF SU (placesF l) (firstN (placesF l))
/-- What Open answers. -/
noncomputable def openF (l : List S67) (dn : Bool) (fu fa size : Int) : Lg × List S62 × Int :=
  if rightF l = true then
    if size < 1 ∨ 262144 < size then (Lz, [], 2)
    else if dn = true then (Lz, [], 17)
    else ((openDo ⟨l, dn, fu, fa, size, 0, 0, false⟩ (findF l) (firstN (placesF l))).1, if (openDo ⟨l, dn, fu, fa, size, 0, 0, false⟩ (findF l) (firstN (placesF l))).2 = 0 then recR (findF l).recs (firstN (placesF l)) else [],
      (openDo ⟨l, dn, fu, fa, size, 0, 0, false⟩ (findF l) (firstN (placesF l))).2)
  else (Lz, [], 6)
set_option maxHeartbeats 8000000 in
set_option maxRecDepth 100000 in
theorem open_any (A : Option Addr) (c : Nat) (l : List S67) (dn : Bool) (fu fa size : Int) (w : World) (hr : Kd.C k67 w A l.length l) (hc : l.length ≤ c) (hG : Gl w) :
    Calls Tryz.prog 26 #[.agg #[.slice A l.length c, .bool dn, .int .i64 fu, .int .i64 fa], .int .i64 size] w fun e w' => ∃ A' c' A2 c2, e = .returned (.tuple #[.agg (lgc A' c' (openF l dn fu fa size).1).toArray, .slice A2 (openF l dn fu fa size).2.1.length c2, .int .i64 (openF l dn fu fa size).2.2])
      ∧ Aside0 (Sep w w' [rowF A' c' (openF l dn fu fa size).1.l, row k62 62 (.slice A2 (openF l dn fu fa size).2.1.length c2) (openF l dn fu fa size).2.1]) := by
  have HRp := Aside0.mk hr
  have HCp := Aside0.mk hc
  have HG := Aside0.mk hG
  have HMX := Aside0.mk (Kd.C_max hr)
  clear hr hc hG
  obtain ⟨O, hO⟩ : ∃ O, O = openF l dn fu fa size := ⟨_, rfl⟩
  rw [← hO]
  have HO := Aside0.mk hO
  clear hO
  have H := Aside0.mk (Sep.start w)
  go_enter Tryz.func26, Tryz.ntmps26
  go_wp2_with (first
 | ((with_reducible refine gate_dst (N := 2) rfl ?_);
    refine new_box rfl H (cs := [.slice A l.length c, .bool dn, .int .i64 fu, .int .i64 fa]) (t := 27) ?hr ?_;
    (case hr => first | (go_simp; done) | (go_simp; rfl));
    intro gd wd1 n_;
    simp only [Act.put, List.setIfInBounds_toArray, List.set_cons_zero, List.set_cons_succ];
    clear H;
    have H := n_;
    clear n_;
    have c_d := H.out.cell (g := gd) mem0)
 | ((with_reducible refine gate_dst (N := 4) rfl ?_);
    refine new_box rfl H (cs := [.slice none 0 0, .bool false, .int .i64 0, .int .i64 0, .int .i64 0, .int .u64 0, .int .u64 0, .bool false]) (t := 30) ?hr ?_;
    (case hr => first | (go_simp; done) | (go_simp; rfl));
    intro gz wd2 n_;
    simp only [Act.put, List.setIfInBounds_toArray, List.set_cons_zero, List.set_cons_succ];
    clear H c_d;
    have H := n_;
    clear n_;
    have c_z := H.out.cell (g := gz) mem0;
    have c_d := H.out.cell (g := gd) mem1)
 | fail)
  by_cases hok : rightF l = true
  ·
    refine ((disk_Check.calls A c l dn fu fa 0 _ (H.out.came HRp.out) HCp.out (by rw [disk_Check.f, if_pos hok])).mono ?_)
    rintro e wd3 ⟨rfl, hb_⟩
    have n_ : Aside0 (Sep w wd3 [box gz [.slice none 0 0, .bool false, .int .i64 0, .int .i64 0, .int .i64 0, .int .u64 0, .int .u64 0, .bool false] 30, box gd [.slice A l.length c, .bool dn, .int .i64 fu, .int .i64 fa] 27]) := ⟨H.out.step hb_⟩
    clear H c_z c_d
    have H := n_
    clear n_
    have c_z := H.out.cell (g := gz) mem0
    have c_d := H.out.cell (g := gd) mem1
    clear hb_
    have HOK := Aside0.mk hok
    have hlen : l.length ≤ 64 := right_len hok
    clear hok
    by_cases hsz : size < 1 ∨ 262144 < size
    ·
      have HSZ := Aside0.mk hsz
      by_cases hs1 : size < 1
      ·
        clear hsz
        have hOV : O = (Lz, [], 2) := by rw [HO.out, openF, if_pos HOK.out, if_pos HSZ.out]
        clear HO
        clear c_z c_d
        have c_z := H.out.cell (g := gz) mem0
        have z_z := H.out.frozen (g := gz) mem0
        have c_d := H.out.cell (g := gd) mem1
        go_wp2_with (first
 | ((with_reducible refine gate_store (t := 30) (p := 4) rfl ?_);
    refine put_box (rs1 := [box gz [.slice none 0 0, .bool false, .int .i64 0, .int .i64 0, .int .i64 0, .int .u64 0, .int .u64 0, .bool false] 30, box gd [.slice A l.length c, .bool dn, .int .i64 fu, .int .i64 fa] 27]) rfl (t := 30) (p := 4) rfl rfl ?hr (H1 := (Sep.set0 (Sep.set0 (Sep.set0 (Sep.set0 (Sep.set0 (Sep.set0 (Sep.set0 (Sep.set0 H.out 0 (.slice none 0 0) rfl) 1 (.bool false) rfl) 2 (.int .i64 0) rfl) 3 (.int .i64 0) rfl) 4 (.int .i64 0) rfl) 5 (.int .u64 0) rfl) 6 (.int .u64 0) rfl) 7 (.bool false) rfl)) ?_;
    (case hr => first | (go_simp; done) | (go_simp; rfl));
    intro wd4 n_;
    clear H c_z z_z c_d;
    have H := n_;
    clear n_;
    have c_z := H.out.cell (g := gz) mem0;
    have z_z := H.out.frozen (g := gz) mem0;
    have c_d := H.out.cell (g := gd) mem1)
 | fail)
        refine bodyPost_ret (results_list (rs := [.cell 4 30, .tmp 5, .tmp 6]) rfl (by simp) (.cell gz 30 _ _ _ rfl (H.out.box_ (g := gz) mem0) Tryz.underlying30 rfl info30 (.tmp (.tmp .nil)))) rfl ?_
        subst hOV
        exact ⟨none, 0, none, 0, rfl, ⟨Sep.push_nil (Sep.push_nil (Sep.drop0 (Sep.drop1 H.out)))⟩⟩
      ·
        have hs2 : 262144 < size := by omega
        clear hsz
        have hOV : O = (Lz, [], 2) := by rw [HO.out, openF, if_pos HOK.out, if_pos HSZ.out]
        clear HO
        clear c_z c_d
        have c_z := H.out.cell (g := gz) mem0
        have z_z := H.out.frozen (g := gz) mem0
        have c_d := H.out.cell (g := gd) mem1
        go_wp2_with (first
 | ((with_reducible refine gate_store (t := 30) (p := 4) rfl ?_);
    refine put_box (rs1 := [box gz [.slice none 0 0, .bool false, .int .i64 0, .int .i64 0, .int .i64 0, .int .u64 0, .int .u64 0, .bool false] 30, box gd [.slice A l.length c, .bool dn, .int .i64 fu, .int .i64 fa] 27]) rfl (t := 30) (p := 4) rfl rfl ?hr (H1 := (Sep.set0 (Sep.set0 (Sep.set0 (Sep.set0 (Sep.set0 (Sep.set0 (Sep.set0 (Sep.set0 H.out 0 (.slice none 0 0) rfl) 1 (.bool false) rfl) 2 (.int .i64 0) rfl) 3 (.int .i64 0) rfl) 4 (.int .i64 0) rfl) 5 (.int .u64 0) rfl) 6 (.int .u64 0) rfl) 7 (.bool false) rfl)) ?_;
    (case hr => first | (go_simp; done) | (go_simp; rfl));
    intro wd5 n_;
    clear H c_z z_z c_d;
    have H := n_;
    clear n_;
    have c_z := H.out.cell (g := gz) mem0;
    have z_z := H.out.frozen (g := gz) mem0;
    have c_d := H.out.cell (g := gd) mem1)
 | fail)
        refine bodyPost_ret (results_list (rs := [.cell 4 30, .tmp 5, .tmp 6]) rfl (by simp) (.cell gz 30 _ _ _ rfl (H.out.box_ (g := gz) mem0) Tryz.underlying30 rfl info30 (.tmp (.tmp .nil)))) rfl ?_
        subst hOV
        exact ⟨none, 0, none, 0, rfl, ⟨Sep.push_nil (Sep.push_nil (Sep.drop0 (Sep.drop1 H.out)))⟩⟩
    ·
      have HSZ := Aside0.mk hsz
      have hs1 : ¬ size < 1 := by omega
      have hs2 : ¬ 262144 < size := by omega
      clear hsz
      cases dn with
      | true =>
        have hOV : O = (Lz, [], 17) := by rw [HO.out, openF, if_pos HOK.out, if_neg HSZ.out, if_pos rfl]
        clear HO
        clear c_z c_d
        have c_z := H.out.cell (g := gz) mem0
        have z_z := H.out.frozen (g := gz) mem0
        have c_d := H.out.cell (g := gd) mem1
        go_wp2_with (first
 | ((with_reducible refine gate_store (t := 30) (p := 4) rfl ?_);
    refine put_box (rs1 := [box gz [.slice none 0 0, .bool false, .int .i64 0, .int .i64 0, .int .i64 0, .int .u64 0, .int .u64 0, .bool false] 30, box gd [.slice A l.length c, .bool true, .int .i64 fu, .int .i64 fa] 27]) rfl (t := 30) (p := 4) rfl rfl ?hr (H1 := (Sep.set0 (Sep.set0 (Sep.set0 (Sep.set0 (Sep.set0 (Sep.set0 (Sep.set0 (Sep.set0 H.out 0 (.slice none 0 0) rfl) 1 (.bool false) rfl) 2 (.int .i64 0) rfl) 3 (.int .i64 0) rfl) 4 (.int .i64 0) rfl) 5 (.int .u64 0) rfl) 6 (.int .u64 0) rfl) 7 (.bool false) rfl)) ?_;
    (case hr => first | (go_simp; done) | (go_simp; rfl));
    intro wd6 n_;
    clear H c_z z_z c_d;
    have H := n_;
    clear n_;
    have c_z := H.out.cell (g := gz) mem0;
    have z_z := H.out.frozen (g := gz) mem0;
    have c_d := H.out.cell (g := gd) mem1)
 | fail)
        refine bodyPost_ret (results_list (rs := [.cell 4 30, .tmp 5, .tmp 6]) rfl (by simp) (.cell gz 30 _ _ _ rfl (H.out.box_ (g := gz) mem0) Tryz.underlying30 rfl info30 (.tmp (.tmp .nil)))) rfl ?_
        subst hOV
        exact ⟨none, 0, none, 0, rfl, ⟨Sep.push_nil (Sep.push_nil (Sep.drop0 (Sep.drop1 H.out)))⟩⟩
      | false =>
        obtain ⟨ps, hps⟩ : ∃ ps, ps = placesF l := ⟨_, rfl⟩
        have HPS := Aside0.mk hps
        obtain ⟨n0, hn0⟩ : ∃ n0, n0 = firstN ps := ⟨_, rfl⟩
        obtain ⟨F, hF⟩ : ∃ F, F = goF SU ps n0 := ⟨_, rfl⟩
        have HF := Aside0.mk hF
        have HFN := Aside0.mk (fun A c w hr hc hG => (find_any A c l false fu fa w hr hc HOK.out hG))
        rw [← hps, ← hn0, ← hF] at HFN
        have hgl : F.gone.length ≤ 64 := by
          have h1 := goF_gone_len SU ps n0
          rw [← hF] at h1
          have h2 := places_len l
          rw [← hps] at h2
          omega
        have HTN : Aside0 (∀ x, F.torn = some x → x.1.1.f0.toList ≠ []) := ⟨fun x hx => (places_size HOK.out HPS.out (goF_torn (S := SU) (n := n0) (x := x) (by rw [← hF]; exact hx))).2.2⟩
        obtain ⟨R, hR⟩ : ∃ R, R = openDo ⟨l, false, fu, fa, size, 0, 0, false⟩ F n0 := ⟨_, rfl⟩
        have HR := Aside0.mk hR
        have hOV : O = (R.1, if R.2 = 0 then recR F.recs n0 else [], R.2) := by
          rw [HO.out, openF, if_pos HOK.out, if_neg HSZ.out, if_neg (by simp), findF, ← hps, ← hn0, ← hF, ← hR]
        have HOV := Aside0.mk hOV
        clear HO hps hn0 hF hR hOV
        go_wp2_with fail
        refine ((HFN.out A c _ (H.out.came HRp.out) HCp.out (HG.out.below H.out.below)).mono ?_)
        rintro e wd7 ⟨A1, c1, A2, c2, Aq, cq, rfl, HJ, hC, hc2⟩
        have n_ : Aside0 (Sep w wd7 [row k62 62 (.slice A1 ((recR F.recs n0)).length c1) ((recR F.recs n0)), row k139 139 (.slice Aq (ps).length cq) ps, box gz [.slice none 0 0, .bool false, .int .i64 0, .int .i64 0, .int .i64 0, .int .u64 0, .int .u64 0, .bool false] 30, box gd [.slice A l.length c, .bool false, .int .i64 fu, .int .i64 fa] 27]) := ⟨sep_join H.out HJ.out⟩
        clear H c_z c_d
        have H := n_
        clear n_
        have c_z := H.out.cell (g := gz) mem2
        have c_d := H.out.cell (g := gd) mem3
        clear HJ
        have HC := Aside0.mk hC
        clear hC
        obtain ⟨tn, htn⟩ : ∃ tn, tn = tornName F.torn := ⟨_, rfl⟩
        obtain ⟨ta, hta⟩ : ∃ ta, ta = tornAt F.torn := ⟨_, rfl⟩
        rw [← htn, ← hta]
        have HTM := Aside0.mk htn.symm
        have HTA := Aside0.mk hta.symm
        clear htn hta
        go_wp2_with (first
 | ((with_reducible refine gate_dst (N := 8) rfl ?_);
    refine new_box rfl H (cs := [.slice none 0 0, .int .u64 0, .int .u64 0, .string ⟨#[]⟩, .int .i64 0, .slice none 0 0]) (t := 129) ?hr ?_;
    (case hr => first | (go_simp; done) | (go_simp; rfl));
    intro gf wd8 n_;
    simp only [Act.put, List.setIfInBounds_toArray, List.set_cons_zero, List.set_cons_succ];
    clear H c_z c_d;
    have H := n_;
    clear n_;
    have c_f := H.out.cell (g := gf) mem0;
    have z_f := H.out.frozen (g := gf) mem0;
    have c_z := H.out.cell (g := gz) mem3;
    have c_d := H.out.cell (g := gd) mem4)
 | ((with_reducible refine gate_store (t := 129) (p := 8) rfl ?_);
    refine put_box (rs1 := [box gf [.slice A1 (recR F.recs n0).length c1, .int .u64 (n0 : Int), .int .u64 (F.next : Int), .string tn, .int .i64 ta, .slice A2 F.gone.length c2] 129, row k62 62 (.slice A1 ((recR F.recs n0)).length c1) ((recR F.recs n0)), row k139 139 (.slice Aq (ps).length cq) ps, box gz [.slice none 0 0, .bool false, .int .i64 0, .int .i64 0, .int .i64 0, .int .u64 0, .int .u64 0, .bool false] 30, box gd [.slice A l.length c, .bool false, .int .i64 fu, .int .i64 fa] 27]) rfl (t := 129) (p := 8) rfl rfl ?hr (H1 := (Sep.set0 (Sep.set0 (Sep.set0 (Sep.set0 (Sep.set0 (Sep.set0 H.out 0 (.slice A1 (recR F.recs n0).length c1) rfl) 1 (.int .u64 (n0 : Int)) rfl) 2 (.int .u64 (F.next : Int)) rfl) 3 (.string tn) rfl) 4 (.int .i64 ta) rfl) 5 (.slice A2 F.gone.length c2) rfl)) ?_;
    (case hr => first | (go_simp; done) | (go_simp; rfl));
    intro wd9 n_;
    clear H c_f z_f c_z c_d;
    have H := n_;
    clear n_;
    have c_f := H.out.cell (g := gf) mem0;
    have z_f := H.out.frozen (g := gf) mem0;
    have c_z := H.out.cell (g := gz) mem3;
    have c_d := H.out.cell (g := gd) mem4)
 | fail)
        refine ((own_any A c l false fu fa _ (H.out.came HRp.out) hlen).mono ?_)
        rintro e wd10 ⟨A3, c3, rfl, HJ⟩
        have n_ : Aside0 (Sep w wd10 [row k67 67 (.slice A3 (l).length c3) l, box gf [.slice A1 (recR F.recs n0).length c1, .int .u64 (n0 : Int), .int .u64 (F.next : Int), .string tn, .int .i64 ta, .slice A2 F.gone.length c2] 129, row k62 62 (.slice A1 ((recR F.recs n0)).length c1) ((recR F.recs n0)), row k139 139 (.slice Aq (ps).length cq) ps, box gz [.slice none 0 0, .bool false, .int .i64 0, .int .i64 0, .int .i64 0, .int .u64 0, .int .u64 0, .bool false] 30, box gd [.slice A l.length c, .bool false, .int .i64 fu, .int .i64 fa] 27]) := ⟨sep_join H.out HJ.out⟩
        clear H c_f z_f c_z c_d
        have H := n_
        clear n_
        have c_f := H.out.cell (g := gf) mem1
        have z_f := H.out.frozen (g := gf) mem1
        have c_z := H.out.cell (g := gz) mem4
        have c_d := H.out.cell (g := gd) mem5
        clear HJ
        go_wp2_with (first
 | ((with_reducible refine gate_dst (N := 37) rfl ?_);
    refine new_box rfl H (cs := [.slice A3 l.length c3, .bool false, .int .i64 fu, .int .i64 fa, .int .i64 size, .int .u64 0, .int .u64 0, .bool false]) (t := 134) ?hr ?_;
    (case hr => first | (go_simp; done) | (go_simp; rfl));
    intro gl wd11 n_;
    simp only [Act.put, List.setIfInBounds_toArray, List.set_cons_zero, List.set_cons_succ];
    clear H c_f z_f c_z c_d;
    have H := n_;
    clear n_;
    have c_l := H.out.cell (g := gl) mem0;
    have c_f := H.out.cell (g := gf) mem2;
    have c_z := H.out.cell (g := gz) mem5;
    have c_d := H.out.cell (g := gd) mem6)
 | ((with_reducible refine gate_dst (N := 9) rfl ?_);
    refine new_box rfl H (cs := [.pointer none]) (t := 131) ?hr ?_;
    (case hr => first | (go_simp; done) | (go_simp; rfl));
    intro gv wd12 n_;
    simp only [Act.put, List.setIfInBounds_toArray, List.set_cons_zero, List.set_cons_succ];
    clear H c_l c_f c_z c_d;
    have H := n_;
    clear n_;
    have c_v := H.out.cell (g := gv) mem0;
    have z_v := H.out.frozen (g := gv) mem0;
    have c_l := H.out.cell (g := gl) mem1;
    have c_f := H.out.cell (g := gf) mem3;
    have c_z := H.out.cell (g := gz) mem6;
    have c_d := H.out.cell (g := gd) mem7)
 | ((with_reducible refine gate_store (t := 131) (p := 9) rfl ?_);
    refine put_box (rs1 := [box gv [.pointer (some ⟨gl, 0, none⟩)] 131, box gl [.slice A3 l.length c3, .bool false, .int .i64 fu, .int .i64 fa, .int .i64 size, .int .u64 0, .int .u64 0, .bool false] 134, row k67 67 (.slice A3 (l).length c3) l, box gf [.slice A1 (recR F.recs n0).length c1, .int .u64 (n0 : Int), .int .u64 (F.next : Int), .string tn, .int .i64 ta, .slice A2 F.gone.length c2] 129, row k62 62 (.slice A1 ((recR F.recs n0)).length c1) ((recR F.recs n0)), row k139 139 (.slice Aq (ps).length cq) ps, box gz [.slice none 0 0, .bool false, .int .i64 0, .int .i64 0, .int .i64 0, .int .u64 0, .int .u64 0, .bool false] 30, box gd [.slice A l.length c, .bool false, .int .i64 fu, .int .i64 fa] 27]) rfl (t := 131) (p := 9) rfl rfl ?hr (H1 := (Sep.set0 H.out 0 (.pointer (some ⟨gl, 0, none⟩)) rfl)) ?_;
    (case hr => first | (go_simp; done) | (go_simp; rfl));
    intro wd13 n_;
    clear H c_v z_v c_l c_f c_z c_d;
    have H := n_;
    clear n_;
    have c_v := H.out.cell (g := gv) mem0;
    have z_v := H.out.frozen (g := gv) mem0;
    have c_l := H.out.cell (g := gl) mem1;
    have c_f := H.out.cell (g := gf) mem3;
    have c_z := H.out.cell (g := gz) mem6;
    have c_d := H.out.cell (g := gd) mem7)
 | fail)
        have hdo := doesL_frame (open_do w gl gf gv ⟨l, false, fu, fa, size, 0, 0, false⟩ F n0 A1 A2 Aq (recR F.recs n0).length c1 c2 cq ps HC.out hgl HTM.out HTN.out HTA.out) [row k62 62 (.slice A1 ((recR F.recs n0)).length c1) ((recR F.recs n0)), box gz [.slice none 0 0, .bool false, .int .i64 0, .int .i64 0, .int .i64 0, .int .u64 0, .int .u64 0, .bool false] 30, box gd [.slice A l.length c, .bool false, .int .i64 fu, .int .i64 fa] 27]
        rw [← HR.out] at hdo
        refine (caught_any hdo (fun args w => by simp [go_sem]) A3 c3 _ ⟨(Sep.front7 (Sep.front7 (Sep.front7 (Sep.front4 (Sep.front7 (Sep.front6 (Sep.front7 (Sep.front7 H.out))))))))⟩).mono ?_
        rintro e wd14 ⟨A4, c4, rfl, H2⟩
        clear hdo
        have n_ : Aside0 (Sep w wd14 [box gl [.slice A4 R.1.l.length c4, .bool R.1.dn, .int .i64 R.1.fu, .int .i64 R.1.fa, .int .i64 R.1.size, .int .u64 R.1.fr, .int .u64 R.1.nx, .bool R.1.br] 134, row k67 67 (.slice A4 (R.1.l).length c4) R.1.l, box gf [.slice A1 (recR F.recs n0).length c1, .int .u64 (n0 : Int), .int .u64 (F.next : Int), .string tn, .int .i64 ta, .slice A2 F.gone.length c2] 129, box gv [.pointer (some ⟨gl, 0, none⟩)] 131, row k139 139 (.slice Aq (ps).length cq) ps, row k62 62 (.slice A1 ((recR F.recs n0)).length c1) ((recR F.recs n0)), box gz [.slice none 0 0, .bool false, .int .i64 0, .int .i64 0, .int .i64 0, .int .u64 0, .int .u64 0, .bool false] 30, box gd [.slice A l.length c, .bool false, .int .i64 fu, .int .i64 fa] 27]) := ⟨H2.out⟩
        clear H c_v z_v c_l c_f c_z c_d
        have H := n_
        clear n_
        have c_l := H.out.cell (g := gl) mem0
        have c_f := H.out.cell (g := gf) mem2
        have c_v := H.out.cell (g := gv) mem3
        have c_z := H.out.cell (g := gz) mem6
        have z_z := H.out.frozen (g := gz) mem6
        have c_d := H.out.cell (g := gd) mem7
        clear H2
        simp only [lgc]
        by_cases hz : R.2 = 0
        ·
          go_wp2_with (first
 | ((with_reducible refine gate_dst (N := 10) rfl ?_);
    refine new_box rfl H (cs := [.slice none 0 0, .bool false, .int .i64 0, .int .i64 0, .int .i64 0, .int .u64 0, .int .u64 0, .bool false]) (t := 30) ?hr ?_;
    (case hr => first | (go_simp; done) | (go_simp; rfl));
    intro gk wd15 n_;
    simp only [Act.put, List.setIfInBounds_toArray, List.set_cons_zero, List.set_cons_succ];
    clear H c_l c_f c_v c_z z_z c_d;
    have H := n_;
    clear n_;
    have c_k := H.out.cell (g := gk) mem0;
    have z_k := H.out.frozen (g := gk) mem0;
    have c_l := H.out.cell (g := gl) mem1;
    have c_f := H.out.cell (g := gf) mem3;
    have c_v := H.out.cell (g := gv) mem4;
    have c_z := H.out.cell (g := gz) mem7;
    have z_z := H.out.frozen (g := gz) mem7;
    have c_d := H.out.cell (g := gd) mem8)
 | ((with_reducible refine gate_store (t := 30) (p := 10) rfl ?_);
    refine put_box (rs1 := [box gk [.slice A4 R.1.l.length c4, .bool R.1.dn, .int .i64 R.1.fu, .int .i64 R.1.fa, .int .i64 R.1.size, .int .u64 R.1.fr, .int .u64 R.1.nx, .bool R.1.br] 30, box gl [.slice A4 R.1.l.length c4, .bool R.1.dn, .int .i64 R.1.fu, .int .i64 R.1.fa, .int .i64 R.1.size, .int .u64 R.1.fr, .int .u64 R.1.nx, .bool R.1.br] 134, row k67 67 (.slice A4 (R.1.l).length c4) R.1.l, box gf [.slice A1 (recR F.recs n0).length c1, .int .u64 (n0 : Int), .int .u64 (F.next : Int), .string tn, .int .i64 ta, .slice A2 F.gone.length c2] 129, box gv [.pointer (some ⟨gl, 0, none⟩)] 131, row k139 139 (.slice Aq (ps).length cq) ps, row k62 62 (.slice A1 ((recR F.recs n0)).length c1) ((recR F.recs n0)), box gz [.slice none 0 0, .bool false, .int .i64 0, .int .i64 0, .int .i64 0, .int .u64 0, .int .u64 0, .bool false] 30, box gd [.slice A l.length c, .bool false, .int .i64 fu, .int .i64 fa] 27]) rfl (t := 30) (p := 10) rfl rfl ?hr (H1 := (Sep.set0 (Sep.set0 (Sep.set0 (Sep.set0 (Sep.set0 (Sep.set0 (Sep.set0 (Sep.set0 H.out 0 (.slice A4 R.1.l.length c4) rfl) 1 (.bool R.1.dn) rfl) 2 (.int .i64 R.1.fu) rfl) 3 (.int .i64 R.1.fa) rfl) 4 (.int .i64 R.1.size) rfl) 5 (.int .u64 R.1.fr) rfl) 6 (.int .u64 R.1.nx) rfl) 7 (.bool R.1.br) rfl)) ?_;
    (case hr => first | (go_simp; done) | (go_simp; rfl));
    intro wd16 n_;
    clear H c_k z_k c_l c_f c_v c_z z_z c_d;
    have H := n_;
    clear n_;
    have c_k := H.out.cell (g := gk) mem0;
    have z_k := H.out.frozen (g := gk) mem0;
    have c_l := H.out.cell (g := gl) mem1;
    have c_f := H.out.cell (g := gf) mem3;
    have c_v := H.out.cell (g := gv) mem4;
    have c_z := H.out.cell (g := gz) mem7;
    have z_z := H.out.frozen (g := gz) mem7;
    have c_d := H.out.cell (g := gd) mem8)
 | fail)
          have hne : ¬ gf = gz := sep_ne H.out (i := 3) (j := 7) rfl rfl (by decide)
          have hne2 : ¬ gz = gf := fun e => hne e.symm
          have c_f := H.out.cell (g := gf) mem3
          go_region
          clear c_f hne hne2
          refine gen_k (rs := [box gk [.slice A4 R.1.l.length c4, .bool R.1.dn, .int .i64 R.1.fu, .int .i64 R.1.fa, .int .i64 R.1.size, .int .u64 R.1.fr, .int .u64 R.1.nx, .bool R.1.br] 30, box gl [.slice A4 R.1.l.length c4, .bool R.1.dn, .int .i64 R.1.fu, .int .i64 R.1.fa, .int .i64 R.1.size, .int .u64 R.1.fr, .int .u64 R.1.nx, .bool R.1.br] 134, row k67 67 (.slice A4 (R.1.l).length c4) R.1.l, box gf [.slice A1 (recR F.recs n0).length c1, .int .u64 (n0 : Int), .int .u64 (F.next : Int), .string tn, .int .i64 ta, .slice A2 F.gone.length c2] 129, box gv [.pointer (some ⟨gl, 0, none⟩)] 131, row k139 139 (.slice Aq (ps).length cq) ps, row k62 62 (.slice A1 ((recR F.recs n0)).length c1) ((recR F.recs n0)), box gz [.slice A4 R.1.l.length c4, .bool R.1.dn, .int .i64 R.1.fu, .int .i64 R.1.fa, .int .i64 R.1.size, .int .u64 R.1.fr, .int .u64 R.1.nx, .bool R.1.br] 30, box gd [.slice A l.length c, .bool false, .int .i64 fu, .int .i64 fa] 27]) (Sep.drew (Sep.set7 (Sep.set7 (Sep.set7 (Sep.set7 (Sep.set7 (Sep.set7 (Sep.set7 (Sep.set7 H.out 0 (.slice A4 R.1.l.length c4) rfl) 1 (.bool R.1.dn) rfl) 2 (.int .i64 R.1.fu) rfl) 3 (.int .i64 R.1.fa) rfl) 4 (.int .i64 R.1.size) rfl) 5 (.int .u64 R.1.fr) rfl) 6 (.int .u64 R.1.nx) rfl) 7 (.bool R.1.br) rfl)) ?_
          intro wd17 n_
          clear H c_k z_k c_l c_f c_v c_z z_z c_d
          have H := n_
          clear n_
          have c_k := H.out.cell (g := gk) mem0
          have z_k := H.out.frozen (g := gk) mem0
          have c_l := H.out.cell (g := gl) mem1
          have c_f := H.out.cell (g := gf) mem3
          have c_v := H.out.cell (g := gv) mem4
          have c_z := H.out.cell (g := gz) mem7
          have z_z := H.out.frozen (g := gz) mem7
          have c_d := H.out.cell (g := gd) mem8
          go_wp2_with fail
          refine bodyPost_ret (results_list (rs := [.cell 4 30, .tmp 5, .tmp 6]) rfl (by simp) (.cell gz 30 _ _ _ rfl (H.out.box_ (g := gz) mem7) Tryz.underlying30 rfl info30 (.tmp (.tmp .nil)))) rfl ?_
          have h := HOV.out
          rw [if_pos hz, hz] at h
          subst h
          exact ⟨A4, c4, A1, c1, rfl, ⟨(Sep.drop0 (Sep.drop1 (Sep.drop3 (Sep.drop4 (Sep.drop5 (Sep.drop7 (Sep.drop8 H.out)))))))⟩⟩
        ·
          go_wp2_with (first
 | ((with_reducible refine gate_dst (N := 10) rfl ?_);
    refine new_box rfl H (cs := [.slice none 0 0, .bool false, .int .i64 0, .int .i64 0, .int .i64 0, .int .u64 0, .int .u64 0, .bool false]) (t := 30) ?hr ?_;
    (case hr => first | (go_simp; done) | (go_simp; rfl));
    intro gk wd18 n_;
    simp only [Act.put, List.setIfInBounds_toArray, List.set_cons_zero, List.set_cons_succ];
    clear H c_l c_f c_v c_z z_z c_d;
    have H := n_;
    clear n_;
    have c_k := H.out.cell (g := gk) mem0;
    have z_k := H.out.frozen (g := gk) mem0;
    have c_l := H.out.cell (g := gl) mem1;
    have c_f := H.out.cell (g := gf) mem3;
    have c_v := H.out.cell (g := gv) mem4;
    have c_z := H.out.cell (g := gz) mem7;
    have z_z := H.out.frozen (g := gz) mem7;
    have c_d := H.out.cell (g := gd) mem8)
 | ((with_reducible refine gate_store (t := 30) (p := 10) rfl ?_);
    refine put_box (rs1 := [box gk [.slice A4 R.1.l.length c4, .bool R.1.dn, .int .i64 R.1.fu, .int .i64 R.1.fa, .int .i64 R.1.size, .int .u64 R.1.fr, .int .u64 R.1.nx, .bool R.1.br] 30, box gl [.slice A4 R.1.l.length c4, .bool R.1.dn, .int .i64 R.1.fu, .int .i64 R.1.fa, .int .i64 R.1.size, .int .u64 R.1.fr, .int .u64 R.1.nx, .bool R.1.br] 134, row k67 67 (.slice A4 (R.1.l).length c4) R.1.l, box gf [.slice A1 (recR F.recs n0).length c1, .int .u64 (n0 : Int), .int .u64 (F.next : Int), .string tn, .int .i64 ta, .slice A2 F.gone.length c2] 129, box gv [.pointer (some ⟨gl, 0, none⟩)] 131, row k139 139 (.slice Aq (ps).length cq) ps, row k62 62 (.slice A1 ((recR F.recs n0)).length c1) ((recR F.recs n0)), box gz [.slice none 0 0, .bool false, .int .i64 0, .int .i64 0, .int .i64 0, .int .u64 0, .int .u64 0, .bool false] 30, box gd [.slice A l.length c, .bool false, .int .i64 fu, .int .i64 fa] 27]) rfl (t := 30) (p := 10) rfl rfl ?hr (H1 := (Sep.set0 (Sep.set0 (Sep.set0 (Sep.set0 (Sep.set0 (Sep.set0 (Sep.set0 (Sep.set0 H.out 0 (.slice A4 R.1.l.length c4) rfl) 1 (.bool R.1.dn) rfl) 2 (.int .i64 R.1.fu) rfl) 3 (.int .i64 R.1.fa) rfl) 4 (.int .i64 R.1.size) rfl) 5 (.int .u64 R.1.fr) rfl) 6 (.int .u64 R.1.nx) rfl) 7 (.bool R.1.br) rfl)) ?_;
    (case hr => first | (go_simp; done) | (go_simp; rfl));
    intro wd19 n_;
    clear H c_k z_k c_l c_f c_v c_z z_z c_d;
    have H := n_;
    clear n_;
    have c_k := H.out.cell (g := gk) mem0;
    have z_k := H.out.frozen (g := gk) mem0;
    have c_l := H.out.cell (g := gl) mem1;
    have c_f := H.out.cell (g := gf) mem3;
    have c_v := H.out.cell (g := gv) mem4;
    have c_z := H.out.cell (g := gz) mem7;
    have z_z := H.out.frozen (g := gz) mem7;
    have c_d := H.out.cell (g := gd) mem8)
 | ((with_reducible refine gate_store (t := 30) (p := 4) rfl ?_);
    refine put_box (rs1 := [box gk [.slice A4 R.1.l.length c4, .bool R.1.dn, .int .i64 R.1.fu, .int .i64 R.1.fa, .int .i64 R.1.size, .int .u64 R.1.fr, .int .u64 R.1.nx, .bool R.1.br] 30, box gl [.slice A4 R.1.l.length c4, .bool R.1.dn, .int .i64 R.1.fu, .int .i64 R.1.fa, .int .i64 R.1.size, .int .u64 R.1.fr, .int .u64 R.1.nx, .bool R.1.br] 134, row k67 67 (.slice A4 (R.1.l).length c4) R.1.l, box gf [.slice A1 (recR F.recs n0).length c1, .int .u64 (n0 : Int), .int .u64 (F.next : Int), .string tn, .int .i64 ta, .slice A2 F.gone.length c2] 129, box gv [.pointer (some ⟨gl, 0, none⟩)] 131, row k139 139 (.slice Aq (ps).length cq) ps, row k62 62 (.slice A1 ((recR F.recs n0)).length c1) ((recR F.recs n0)), box gz [.slice A4 R.1.l.length c4, .bool R.1.dn, .int .i64 R.1.fu, .int .i64 R.1.fa, .int .i64 R.1.size, .int .u64 R.1.fr, .int .u64 R.1.nx, .bool R.1.br] 30, box gd [.slice A l.length c, .bool false, .int .i64 fu, .int .i64 fa] 27]) rfl (t := 30) (p := 4) rfl rfl ?hr (H1 := (Sep.set7 (Sep.set7 (Sep.set7 (Sep.set7 (Sep.set7 (Sep.set7 (Sep.set7 (Sep.set7 H.out 0 (.slice A4 R.1.l.length c4) rfl) 1 (.bool R.1.dn) rfl) 2 (.int .i64 R.1.fu) rfl) 3 (.int .i64 R.1.fa) rfl) 4 (.int .i64 R.1.size) rfl) 5 (.int .u64 R.1.fr) rfl) 6 (.int .u64 R.1.nx) rfl) 7 (.bool R.1.br) rfl)) ?_;
    (case hr => first | (go_simp; done) | (go_simp; rfl));
    intro wd20 n_;
    clear H c_k z_k c_l c_f c_v c_z z_z c_d;
    have H := n_;
    clear n_;
    have c_k := H.out.cell (g := gk) mem0;
    have z_k := H.out.frozen (g := gk) mem0;
    have c_l := H.out.cell (g := gl) mem1;
    have c_f := H.out.cell (g := gf) mem3;
    have c_v := H.out.cell (g := gv) mem4;
    have c_z := H.out.cell (g := gz) mem7;
    have z_z := H.out.frozen (g := gz) mem7;
    have c_d := H.out.cell (g := gd) mem8)
 | fail)
          refine bodyPost_ret (results_list (rs := [.cell 4 30, .tmp 5, .tmp 6]) rfl (by simp) (.cell gz 30 _ _ _ rfl (H.out.box_ (g := gz) mem7) Tryz.underlying30 rfl info30 (.tmp (.tmp .nil)))) rfl ?_
          have h := HOV.out
          rw [if_neg hz] at h
          subst h
          exact ⟨A4, c4, none, 0, rfl, ⟨Sep.front1 (Sep.push_nil (Sep.drop0 (Sep.drop1 (Sep.drop3 (Sep.drop4 (Sep.drop5 (Sep.drop6 (Sep.drop7 (Sep.drop8 H.out)))))))))⟩⟩
  ·
    refine ((disk_Check.calls A c l dn fu fa 6 _ (H.out.came HRp.out) HCp.out (by rw [disk_Check.f, if_neg hok])).mono ?_)
    rintro e wd21 ⟨rfl, hb_⟩
    have n_ : Aside0 (Sep w wd21 [box gz [.slice none 0 0, .bool false, .int .i64 0, .int .i64 0, .int .i64 0, .int .u64 0, .int .u64 0, .bool false] 30, box gd [.slice A l.length c, .bool dn, .int .i64 fu, .int .i64 fa] 27]) := ⟨H.out.step hb_⟩
    clear H c_z c_d
    have H := n_
    clear n_
    have c_z := H.out.cell (g := gz) mem0
    have c_d := H.out.cell (g := gd) mem1
    clear hb_
    have HOK := Aside0.mk hok
    clear hok
    have hOV : O = (Lz, [], 6) := by rw [HO.out, openF, if_neg HOK.out]
    clear HO
    clear c_z c_d
    have c_z := H.out.cell (g := gz) mem0
    have z_z := H.out.frozen (g := gz) mem0
    have c_d := H.out.cell (g := gd) mem1
    go_wp2_with (first
 | ((with_reducible refine gate_store (t := 30) (p := 4) rfl ?_);
    refine put_box (rs1 := [box gz [.slice none 0 0, .bool false, .int .i64 0, .int .i64 0, .int .i64 0, .int .u64 0, .int .u64 0, .bool false] 30, box gd [.slice A l.length c, .bool dn, .int .i64 fu, .int .i64 fa] 27]) rfl (t := 30) (p := 4) rfl rfl ?hr (H1 := (Sep.set0 (Sep.set0 (Sep.set0 (Sep.set0 (Sep.set0 (Sep.set0 (Sep.set0 (Sep.set0 H.out 0 (.slice none 0 0) rfl) 1 (.bool false) rfl) 2 (.int .i64 0) rfl) 3 (.int .i64 0) rfl) 4 (.int .i64 0) rfl) 5 (.int .u64 0) rfl) 6 (.int .u64 0) rfl) 7 (.bool false) rfl)) ?_;
    (case hr => first | (go_simp; done) | (go_simp; rfl));
    intro wd22 n_;
    clear H c_z z_z c_d;
    have H := n_;
    clear n_;
    have c_z := H.out.cell (g := gz) mem0;
    have z_z := H.out.frozen (g := gz) mem0;
    have c_d := H.out.cell (g := gd) mem1)
 | fail)
    refine bodyPost_ret (results_list (rs := [.cell 4 30, .tmp 5, .tmp 6]) rfl (by simp) (.cell gz 30 _ _ _ rfl (H.out.box_ (g := gz) mem0) Tryz.underlying30 rfl info30 (.tmp (.tmp .nil)))) rfl ?_
    subst hOV
    exact ⟨none, 0, none, 0, rfl, ⟨Sep.push_nil (Sep.push_nil (Sep.drop0 (Sep.drop1 H.out)))⟩⟩
end Go.Proofs.YtanonhipicoigaaGreatDoor.U
namespace Go.Proofs.YtanonhipicoigaaGreatDoor.U
open Go.RowKit Go.Proofs.YtanonhipicoigaaGreatDoorW.PrintWords Go.Proofs.YtanonhipicoigaaGreatDoorW.PrintLast Go.Proofs.YtanonhipicoigaaGreatDoorW.PrintMore
set_option linter.unusedVariables false
set_option linter.unusedSimpArgs false
/-- A change keeps a disk right and touches one name. -/
def Good (l : List S67) (s : ByteArray) (l' : List S67) : Prop := rightF l' = true ∧ ∀ x : S67, x.f0.toList ≠ s.toList → (x ∈ l' ↔ x ∈ l)
theorem good_set {l : List S67} (h : rightF l = true) {s : ByteArray} {x y : S67} (hx : l[bsOf l s]? = some x) (e : x.f0.toList = s.toList) (hn : y.f0 = x.f0) (hy : OkOne y) : Good l s (l.set (bsOf l s) y) :=
  ⟨right_set h hx hn hy, fun z hz => mem_set h hx hn (by rw [e]; exact hz)⟩
theorem good_create {l : List S67} {s : ByteArray} (h : rightF l = true) (hrf : rfC s l.length (bsOf l s) (isAt l s (bsOf l s)) = 0) : Good l s (l.take (bsOf l s) ++ [(⟨s, ⟨#[]⟩, 0⟩ : S67)] ++ l.drop (bsOf l s)) := by
  unfold rfC at hrf
  split at hrf
  · cases hrf
  rename_i h1
  split at hrf
  · cases hrf
  rename_i h2
  split at hrf
  · cases hrf
  rename_i h3
  simp only [not_or] at h1
  refine ⟨right_new h (by simpa using h2) ⟨show s.size ≤ 4096 by omega, show (⟨#[]⟩ : ByteArray).size ≤ 262144 by decide, show (0 : Int) ≤ 0 by decide, show (0 : Int) ≤ ((⟨#[]⟩ : ByteArray).size : Int) by decide⟩ rfl h1.1 (by omega), fun x hx => ?_⟩
  rw [mem_new]
  constructor
  · rintro (rfl | g)
    · exact absurd rfl hx
    · exact g
  · exact .inr
theorem at_of {l : List S67} {s : ByteArray} (h : rightF l = true) (hi : isAt l s (bsOf l s) = true) : ∃ x, l[bsOf l s]? = some x ∧ x.f0.toList = s.toList := (isAt_iff _ _ _).1 hi
theorem good_append {l : List S67} {s : ByteArray} (h : rightF l = true) (d : ByteArray) (hrf : rfW d l (bsOf l s) (isAt l s (bsOf l s)) = 0) : Good l s (l.set (bsOf l s : Int).toNat ⟨(rd_T67 l (bsOf l s)).f0, (rd_T67 l (bsOf l s)).f1 ++ d, (rd_T67 l (bsOf l s)).f2⟩) := by
  unfold rfW at hrf
  split at hrf
  · rename_i hi
    obtain ⟨x, hx, e⟩ := at_of h hi
    rw [rd_get hx] at hrf
    split at hrf
    · cases hrf
    rename_i hs
    simp only [Int.toNat_natCast, rd_get hx]
    have hok := right_get h hx
    exact good_set h hx e rfl ⟨hok.1, by simp only [ByteArray.size_append]; omega, hok.2.2.1, by simp only [ByteArray.size_append]; have := hok.2.2.2; omega⟩
  · cases hrf
theorem good_sync {l : List S67} {s : ByteArray} (h : rightF l = true) (hi : isAt l s (bsOf l s) = true) : Good l s (l.set (bsOf l s : Int).toNat ⟨(rd_T67 l (bsOf l s)).f0, (rd_T67 l (bsOf l s)).f1, ((rd_T67 l (bsOf l s)).f1.size : Int)⟩) := by
  obtain ⟨x, hx, e⟩ := at_of h hi
  simp only [Int.toNat_natCast, rd_get hx]
  have hok := right_get h hx
  exact good_set h hx e rfl ⟨hok.1, hok.2.1, by simp, Int.le_refl _⟩
theorem good_cut {l : List S67} {s : ByteArray} (h : rightF l = true) (n : Int) (hrf : rfT n l (bsOf l s) (isAt l s (bsOf l s)) = 0) : Good l s (l.set (bsOf l s : Int).toNat ⟨(rd_T67 l (bsOf l s)).f0, (rd_T67 l (bsOf l s)).f1.extract 0 n.toNat, n⟩) := by
  unfold rfT at hrf
  split at hrf
  · rename_i hi
    obtain ⟨x, hx, e⟩ := at_of h hi
    rw [rd_get hx] at hrf
    split at hrf
    · cases hrf
    rename_i hs
    simp only [Int.toNat_natCast, rd_get hx]
    have hok := right_get h hx
    refine good_set h hx e rfl ⟨hok.1, ?_, show 0 ≤ n by omega, ?_⟩
    · simp only [ByteArray.size_extract]; omega
    · simp only [ByteArray.size_extract]; omega
  · cases hrf
end Go.Proofs.YtanonhipicoigaaGreatDoor.U
