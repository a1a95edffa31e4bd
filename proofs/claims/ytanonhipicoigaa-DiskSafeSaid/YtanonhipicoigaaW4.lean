import Derived.Test.YtanonhipicoigaaL4
import Derived.Test.YtanonhipicoigaaG11
import Derived.Test.YtanonhipicoigaaSp0
namespace Go.Proofs.Ytanonhipicoigaa.T
open Go.RowKit Go.Proofs.YtanonhipicoigaaW.PrintWords Go.Proofs.YtanonhipicoigaaW.PrintLast Go.Proofs.YtanonhipicoigaaW.PrintMore Go.Proofs.Ytanonhipicoigaa.Sp
set_option linter.unusedVariables false
set_option linter.unusedSimpArgs false

theorem k43_flat {W : World} {ok1 ok2 : Nat → Prop} {x : S43} {cs : List Value} (h : k43.M W 0 ok1 x cs) : k43.M W 0 ok2 x cs := by
  obtain rfl := k43_openM h
  exact k43_mkM _ _ _ _
theorem at43 {W : World} {ad : Addr} {n i : Nat} {l : List S43} {x : S43} (h : Kd.C k43 W (some ad) n l) (hx : l[i]? = some x) :
    W.cell? (ad.add (i * 3)) = some (.string x.f0) ∧ W.cell? ⟨(ad.add (i * 3)).block, (ad.add (i * 3)).off + 1, none⟩ = some (.string x.f1) ∧ W.cell? ⟨(ad.add (i * 3)).block, (ad.add (i * 3)).off + 2, none⟩ = some (.int .i64 x.f2) := by
  have hi := (List.getElem?_eq_some_iff.1 hx).1
  obtain ⟨ad2, e, h0, h1, h2⟩ := at_T43 h (i : Int) (by omega) (by have := h.1; omega)
  injection e with e
  subst e
  rw [rd_get hx] at h0 h1 h2
  simp only [Int.toNat_natCast] at h0 h1 h2
  exact ⟨h0, h1, h2⟩
/-- A step keeps a disk right. -/
theorem do_right {l : List S43} (h : rightF l = true) (dn : Bool) (fu fa k : Int) (s d : ByteArray) (n : Int) : ∃ l2 dn2 fu2 fa2 e, disk_Do.f l dn fu fa k s d n = some (l2, dn2, fu2, fa2, e) ∧ rightF l2 = true ∧ (e = 17 → dn2 = true) := by
  rw [disk_Do_eq]
  have hc := came_do l dn fu fa k s d n
  revert hc
  generalize doF l dn fu fa k s d n = R
  intro hc
  cases hc with
  | wrong h' => rw [h] at h'; cases h'
  | down h' hd => exact ⟨_, _, _, _, _, rfl, h, fun _ => hd⟩
  | refused e h' h1 h2 h3 => exact ⟨_, _, _, _, _, rfl, h, fun e => absurd e h2⟩
  | fault h' hd hf => exact ⟨_, _, _, _, _, rfl, h, fun e => by cases e⟩
  | fuse l' fa' h' hd hf hu hl hg he => exact ⟨_, _, _, _, _, rfl, hg.1, fun _ => rfl⟩
  | done l' fu' fa' h' hd hf hu hg h1 h2 => exact ⟨_, _, _, _, _, rfl, hg.1, fun e => by cases e⟩
/-- A file behind a crash. -/
theorem crash_file {l : List S43} (h : rightF l = true) (ks : List Int) {i : Nat} (hi : i < l.length) : ∃ x y1 y2, l[i]? = some x ∧ (crashF l ks)[i]? = some ⟨x.f0, y1, y2⟩ ∧ x.f2 ≤ (y1.size : Int) ∧ y1.size ≤ x.f1.size ∧ (!y1.toList == (x.f1.extract 0 y1.size).toList) = false ∧ y2 = (y1.size : Int) := by
  have hx := List.getElem?_eq_getElem hi
  have ho := ((right_iff l).1 h).2.1 _ (List.mem_of_getElem? hx)
  have h1 := crash_one ho ks[i]?
  have hr := crashS_range ho.2.2.1 ho.2.2.2 ks[i]?
  have h0 := ho.2.2.1
  refine ⟨_, _, _, hx, crashF_get hx, ?_, ?_, ?_, h1.2.symm⟩
  · simp only [ByteArray.size_extract]; omega
  · simp only [ByteArray.size_extract]; omega
  · have e : (l[i].f1.extract 0 (crashS l[i] ks[i]?).toNat).size = (crashS l[i] ks[i]?).toNat := by simp only [ByteArray.size_extract]; omega
    rw [e]
    simp
set_option maxHeartbeats 8000000 in
set_option maxRecDepth 100000 in
theorem DiskSafe_walk (fuse fault : Int) (A3 : Option Addr) (c3 : Nat) (ls : List S38) (A1 : Option Addr) (c1 : Nat) (l1 : List Int) (w : World)
    (hr3 : Kd.C k38 w A3 ls.length ls) (hc3 : ls.length ≤ c3) (hr1 : Kd.C (Kd.int .i64) w A1 l1.length l1) (hc1 : l1.length ≤ c1) :
    Calls Try.prog 4 #[.int .i64 fuse, .int .i64 fault, .slice A3 ls.length c3, .slice A1 l1.length c1] w fun e w' => e = .returned (.bool true) ∧ Below w.heap.size w w' := by
  have HR3 := Aside0.mk hr3
  have HC3 := Aside0.mk hc3
  have HR1 := Aside0.mk hr1
  have HC1 := Aside0.mk hc1
  have hmax : ls.length ≤ 9223372036854775807 := Kd.C_max hr3
  clear hr3 hc3 hr1 hc1
  have H := Aside0.mk (Sep.start w)
  go_enter Try.func4, Try.ntmps4
  go_wp2_with fail
  refine ((lives.calls true _ rfl).mono ?_)
  rintro e wd1 ⟨rfl, hb_⟩
  have n_ : Aside0 (Sep w wd1 []) := ⟨H.out.step hb_⟩
  clear H
  have H := n_
  clear n_
  clear hb_
  go_wp2_with (first
      | ((with_reducible refine gate_dst (N := 9) rfl ?_);
          refine new_box rfl H (cs := [.slice none 0 0, .bool false, .int .i64 0, .int .i64 0]) (t := 24) ?hr ?_;
          (case hr => first | (go_simp; done) | (go_simp; rfl));
          intro gd wd2 n_;
          clear H;
          have H := n_;
          clear n_;
          have c_d := H.out.cell (g := gd) mem0;
          have z_d := H.out.frozen (g := gd) mem0)
      | ((with_reducible refine gate_store (t := 24) (p := 9) rfl ?_);
          refine put_box (rs1 := [box gd [.slice none 0 0, .bool false, .int .i64 fuse, .int .i64 fault] 24]) rfl (t := 24) (p := 9) rfl rfl ?hr (H1 := (Sep.set0 (Sep.set0 (Sep.set0 (Sep.set0 H.out 0 (.slice none 0 0) rfl) 1 (.bool false) rfl) 2 (.int .i64 fuse) rfl) 3 (.int .i64 fault) rfl)) ?_;
          (case hr => first | (go_simp; done) | (go_simp; rfl));
          intro wd3 n_;
          clear H c_d z_d;
          have H := n_;
          clear n_;
          have c_d := H.out.cell (g := gd) mem0;
          have z_d := H.out.frozen (g := gd) mem0)
      | fail)
  go_loopw [26] (fun v26 wr => ∃ (k : Nat) (l : List S43) (dn : Bool) (fu fa : Int) (A : Option Addr) (c : Nat), v26 = .int .i64 (k : Int) ∧ k ≤ ls.length ∧ Aside0 (rightF l = true) ∧ Aside0 (Sep w wr [box gd [.slice A l.length c, .bool dn, .int .i64 fu, .int .i64 fa] 24, row k43 43 (.slice A (l).length c) l]))
    (fun v26 _ => ls.length - (intOf v26).toNat)
  case atStart => exact ⟨0, [], false, fuse, fault, none, 0, rfl, by omega, ⟨by decide⟩, ⟨(Sep.push_nil H.out).perm (List.Perm.swap _ _ _)⟩⟩
  case round =>
    clear H c_d z_d
    obtain ⟨k, l, dn, fu, fa, A, c, rfl, hk, HOK, H⟩ := hrel
    have c_d := H.out.cell (g := gd) mem0
    have z_d := H.out.frozen (g := gd) mem0
    have hle := right_len HOK.out
    by_cases hlt : k < ls.length
    · have hr := H.out.came HR3.out
      obtain ⟨ad, e3, h0, h1, h2, h3⟩ := at_T38 hr (k : Int) (by omega) (by omega)
      subst e3
      clear hr
      obtain ⟨x, hx⟩ : ∃ x, x = rd_T38 ls (k : Int) := ⟨_, rfl⟩
      rw [← hx] at h0 h1 h2 h3
      simp only [Int.toNat_natCast] at h0 h1 h2 h3
      clear hx
      have hi0 : (0 : Int) ≤ (k : Int) := by omega
      have hi1 : (k : Int) < (ls.length : Int) := by omega
      go_wp2_with (first
          | ((with_reducible refine gate_dst (N := 11) rfl ?_);
              refine new_box rfl H (cs := [.int .u8 0, .string ⟨#[]⟩, .string ⟨#[]⟩, .int .i64 0]) (t := 38) ?hr ?_;
              (case hr => first | (go_simp; done) | (go_simp; rfl));
              intro gs wd4 n_;
              clear H c_d z_d;
              have H := n_;
              clear n_;
              have c_s := H.out.cell (g := gs) mem0;
              have z_s := H.out.frozen (g := gs) mem0;
              have c_d := H.out.cell (g := gd) mem1;
              have z_d := H.out.frozen (g := gd) mem1;
              clear h0 h1 h2 h3)
          | ((with_reducible refine gate_store (t := 38) (p := 11) rfl ?_);
              refine put_box (rs1 := [box gs [.int .u8 x.f0, .string x.f1, .string x.f2, .int .i64 x.f3] 38, box gd [.slice A l.length c, .bool dn, .int .i64 fu, .int .i64 fa] 24, row k43 43 (.slice A (l).length c) l]) rfl (t := 38) (p := 11) rfl rfl ?hr (H1 := (Sep.set0 (Sep.set0 (Sep.set0 (Sep.set0 H.out 0 (.int .u8 x.f0) rfl) 1 (.string x.f1) rfl) 2 (.string x.f2) rfl) 3 (.int .i64 x.f3) rfl)) ?_;
              (case hr => first | (go_simp; done) | (go_simp; rfl));
              intro wd5 n_;
              clear H c_s z_s c_d z_d;
              have H := n_;
              clear n_;
              have c_s := H.out.cell (g := gs) mem0;
              have z_s := H.out.frozen (g := gs) mem0;
              have c_d := H.out.cell (g := gd) mem1;
              have z_d := H.out.frozen (g := gd) mem1)
          | fail)
      obtain ⟨l2, dn2, fu2, fa2, e2, hdo, hr2, h17⟩ := do_right HOK.out dn fu fa x.f0 x.f1 x.f2 x.f3
      have HR2 := Aside0.mk hr2
      clear hr2
      refine ((disk_Do.calls A c l dn fu fa x.f0 x.f1 x.f2 x.f3 l2 dn2 fu2 fa2 e2 _ (H.out.reads mem2).2.2 (H.out.reads mem2).2.1 hdo).mono ?_)
      rintro e wd6 ⟨v_, rfl, ho_, hb_⟩
      obtain ⟨Ax, cx, eo_⟩ := Kd.R_slice ho_
      subst eo_
      have n_ : Aside0 (Sep w wd6 [row k43 43 (.slice Ax (l2).length cx) l2, box gs [.int .u8 x.f0, .string x.f1, .string x.f2, .int .i64 x.f3] 38, box gd [.slice A l.length c, .bool dn, .int .i64 fu, .int .i64 fa] 24, row k43 43 (.slice A (l).length c) l]) := ⟨Sep.push_row H.out hb_ ho_ k43_flat⟩
      clear H c_s z_s c_d z_d
      have H := n_
      clear n_
      have c_s := H.out.cell (g := gs) mem1
      have z_s := H.out.frozen (g := gs) mem1
      have c_d := H.out.cell (g := gd) mem2
      have z_d := H.out.frozen (g := gd) mem2
      clear ho_ hb_
      go_wp2_with (first
          | ((with_reducible refine gate_dst (N := 12) rfl ?_);
              refine new_box rfl H (cs := [.slice none 0 0, .bool false, .int .i64 0, .int .i64 0]) (t := 24) ?hr ?_;
              (case hr => first | (go_simp; done) | (go_simp; rfl));
              intro gy wd7 n_;
              clear H c_s z_s c_d z_d;
              have H := n_;
              clear n_;
              have c_y := H.out.cell (g := gy) mem0;
              have z_y := H.out.frozen (g := gy) mem0;
              have c_s := H.out.cell (g := gs) mem2;
              have z_s := H.out.frozen (g := gs) mem2;
              have c_d := H.out.cell (g := gd) mem3;
              have z_d := H.out.frozen (g := gd) mem3)
          | ((with_reducible refine gate_store (t := 24) (p := 12) rfl ?_);
              refine put_box (rs1 := [box gy [.slice Ax (l2).length cx, .bool dn2, .int .i64 fu2, .int .i64 fa2] 24, row k43 43 (.slice Ax (l2).length cx) l2, box gs [.int .u8 x.f0, .string x.f1, .string x.f2, .int .i64 x.f3] 38, box gd [.slice A l.length c, .bool dn, .int .i64 fu, .int .i64 fa] 24, row k43 43 (.slice A (l).length c) l]) rfl (t := 24) (p := 12) rfl rfl ?hr (H1 := (Sep.set0 (Sep.set0 (Sep.set0 (Sep.set0 H.out 0 (.slice Ax (l2).length cx) rfl) 1 (.bool dn2) rfl) 2 (.int .i64 fu2) rfl) 3 (.int .i64 fa2) rfl)) ?_;
              (case hr => first | (go_simp; done) | (go_simp; rfl));
              intro wd8 n_;
              clear H c_y z_y c_s z_s c_d z_d;
              have H := n_;
              clear n_;
              have c_y := H.out.cell (g := gy) mem0;
              have z_y := H.out.frozen (g := gy) mem0;
              have c_s := H.out.cell (g := gs) mem2;
              have z_s := H.out.frozen (g := gs) mem2;
              have c_d := H.out.cell (g := gd) mem3;
              have z_d := H.out.frozen (g := gd) mem3)
          | fail)
      refine ((disk_Check.calls Ax cx l2 dn2 fu2 fa2 0 _ (H.out.reads mem1).2.2 (H.out.reads mem1).2.1 (by rw [disk_Check.f, if_pos HR2.out])).mono ?_)
      rintro e wd9 ⟨rfl, hb_⟩
      have n_ : Aside0 (Sep w wd9 [box gy [.slice Ax (l2).length cx, .bool dn2, .int .i64 fu2, .int .i64 fa2] 24, row k43 43 (.slice Ax (l2).length cx) l2, box gs [.int .u8 x.f0, .string x.f1, .string x.f2, .int .i64 x.f3] 38, box gd [.slice A l.length c, .bool dn, .int .i64 fu, .int .i64 fa] 24, row k43 43 (.slice A (l).length c) l]) := ⟨H.out.step hb_⟩
      clear H c_y z_y c_s z_s c_d z_d
      have H := n_
      clear n_
      have c_y := H.out.cell (g := gy) mem0
      have z_y := H.out.frozen (g := gy) mem0
      have c_s := H.out.cell (g := gs) mem2
      have z_s := H.out.frozen (g := gs) mem2
      have c_d := H.out.cell (g := gd) mem3
      have z_d := H.out.frozen (g := gd) mem3
      clear hb_
      by_cases he : e2 = 17
      · obtain rfl := h17 he
        subst he
        go_wp2_with (first
            | ((with_reducible refine gate_store (t := 24) (p := 9) rfl ?_);
                refine put_box (rs1 := [box gy [.slice Ax (l2).length cx, .bool true, .int .i64 fu2, .int .i64 fa2] 24, row k43 43 (.slice Ax (l2).length cx) l2, box gs [.int .u8 x.f0, .string x.f1, .string x.f2, .int .i64 x.f3] 38, box gd [.slice Ax (l2).length cx, .bool true, .int .i64 fu2, .int .i64 fa2] 24, row k43 43 (.slice A (l).length c) l]) rfl (t := 24) (p := 9) rfl rfl ?hr (H1 := (Sep.set3 (Sep.set3 (Sep.set3 (Sep.set3 H.out 0 (.slice Ax (l2).length cx) rfl) 1 (.bool true) rfl) 2 (.int .i64 fu2) rfl) 3 (.int .i64 fa2) rfl)) ?_;
                (case hr => first | (go_simp; done) | (go_simp; rfl));
                intro wd10 n_;
                clear H c_y z_y c_s z_s c_d z_d;
                have H := n_;
                clear n_;
                have c_y := H.out.cell (g := gy) mem0;
                have z_y := H.out.frozen (g := gy) mem0;
                have c_s := H.out.cell (g := gs) mem2;
                have z_s := H.out.frozen (g := gs) mem2;
                have c_d := H.out.cell (g := gd) mem3;
                have z_d := H.out.frozen (g := gd) mem3)
            | fail)
        refine ⟨⟨k + 1, l2, true, fu2, fa2, Ax, cx, by congr 1, by omega, ⟨HR2.out⟩, ⟨?_⟩⟩, by simp [intOf]; omega⟩
        exact (Sep.front1 (Sep.drop0 (Sep.drop2 (Sep.drop4 H.out))))
      · clear h17
        go_wp2_with (first
            | ((with_reducible refine gate_store (t := 24) (p := 9) rfl ?_);
                refine put_box (rs1 := [box gy [.slice Ax (l2).length cx, .bool dn2, .int .i64 fu2, .int .i64 fa2] 24, row k43 43 (.slice Ax (l2).length cx) l2, box gs [.int .u8 x.f0, .string x.f1, .string x.f2, .int .i64 x.f3] 38, box gd [.slice Ax (l2).length cx, .bool dn2, .int .i64 fu2, .int .i64 fa2] 24, row k43 43 (.slice A (l).length c) l]) rfl (t := 24) (p := 9) rfl rfl ?hr (H1 := (Sep.set3 (Sep.set3 (Sep.set3 (Sep.set3 H.out 0 (.slice Ax (l2).length cx) rfl) 1 (.bool dn2) rfl) 2 (.int .i64 fu2) rfl) 3 (.int .i64 fa2) rfl)) ?_;
                (case hr => first | (go_simp; done) | (go_simp; rfl));
                intro wd11 n_;
                clear H c_y z_y c_s z_s c_d z_d;
                have H := n_;
                clear n_;
                have c_y := H.out.cell (g := gy) mem0;
                have z_y := H.out.frozen (g := gy) mem0;
                have c_s := H.out.cell (g := gs) mem2;
                have z_s := H.out.frozen (g := gs) mem2;
                have c_d := H.out.cell (g := gd) mem3;
                have z_d := H.out.frozen (g := gd) mem3)
            | fail)
        refine ⟨⟨k + 1, l2, dn2, fu2, fa2, Ax, cx, by congr 1, by omega, ⟨HR2.out⟩, ⟨?_⟩⟩, by simp [intOf]; omega⟩
        exact (Sep.front1 (Sep.drop0 (Sep.drop2 (Sep.drop4 H.out))))
    · have hok1 := crash_right HOK.out l1
      obtain ⟨la, hla⟩ : ∃ la, la = crashF l l1 := ⟨_, rfl⟩
      have HLA := Aside0.mk hla
      have HOKA := Aside0.mk (show rightF la = true by rw [hla]; exact hok1)
      have HLEN := Aside0.mk (show la.length = l.length by rw [hla, crashF_length])
      have hlen2 : ((la.length : Int) == (l.length : Int)) = true := by rw [HLEN.out]; simp
      clear hok1 hla
      go_wp2_with fail
      refine ((disk_Crash.calls A c l dn fu fa A1 c1 l1 la false (-1) (-1) 0 _ (H.out.reads mem1).2.2 (H.out.reads mem1).2.1 (H.out.came HR1.out) HC1.out (by rw [HLA.out, disk_Crash.f, if_pos HOK.out])).mono ?_)
      rintro e wd12 ⟨v_, rfl, ho_, hb_⟩
      obtain ⟨Ae, ce, eo_⟩ := Kd.R_slice ho_
      subst eo_
      have n_ : Aside0 (Sep w wd12 [row k43 43 (.slice Ae (la).length ce) la, box gd [.slice A l.length c, .bool dn, .int .i64 fu, .int .i64 fa] 24, row k43 43 (.slice A (l).length c) l]) := ⟨Sep.push_row H.out hb_ ho_ k43_flat⟩
      clear H c_d z_d
      have H := n_
      clear n_
      have c_d := H.out.cell (g := gd) mem1
      have z_d := H.out.frozen (g := gd) mem1
      clear ho_ hb_
      go_wp2_with (first
          | ((with_reducible refine gate_dst (N := 14) rfl ?_);
              refine new_box rfl H (cs := [.slice none 0 0, .bool false, .int .i64 0, .int .i64 0]) (t := 24) ?hr ?_;
              (case hr => first | (go_simp; done) | (go_simp; rfl));
              intro gf wd13 n_;
              clear H c_d z_d;
              have H := n_;
              clear n_;
              have c_f := H.out.cell (g := gf) mem0;
              have z_f := H.out.frozen (g := gf) mem0;
              have c_d := H.out.cell (g := gd) mem2;
              have z_d := H.out.frozen (g := gd) mem2)
          | ((with_reducible refine gate_store (t := 24) (p := 14) rfl ?_);
              refine put_box (rs1 := [box gf [.slice Ae (la).length ce, .bool false, .int .i64 (-1), .int .i64 (-1)] 24, row k43 43 (.slice Ae (la).length ce) la, box gd [.slice A l.length c, .bool dn, .int .i64 fu, .int .i64 fa] 24, row k43 43 (.slice A (l).length c) l]) rfl (t := 24) (p := 14) rfl rfl ?hr (H1 := (Sep.set0 (Sep.set0 (Sep.set0 (Sep.set0 H.out 0 (.slice Ae (la).length ce) rfl) 1 (.bool false) rfl) 2 (.int .i64 (-1)) rfl) 3 (.int .i64 (-1)) rfl)) ?_;
              (case hr => first | (go_simp; done) | (go_simp; rfl));
              intro wd14 n_;
              clear H c_f z_f c_d z_d;
              have H := n_;
              clear n_;
              have c_f := H.out.cell (g := gf) mem0;
              have z_f := H.out.frozen (g := gf) mem0;
              have c_d := H.out.cell (g := gd) mem2;
              have z_d := H.out.frozen (g := gd) mem2)
          | fail)
      refine ((disk_Check.calls Ae ce la false (-1) (-1) 0 _ (H.out.reads mem1).2.2 (H.out.reads mem1).2.1 (by rw [disk_Check.f, if_pos HOKA.out])).mono ?_)
      rintro e wd15 ⟨rfl, hb_⟩
      have n_ : Aside0 (Sep w wd15 [box gf [.slice Ae (la).length ce, .bool false, .int .i64 (-1), .int .i64 (-1)] 24, row k43 43 (.slice Ae (la).length ce) la, box gd [.slice A l.length c, .bool dn, .int .i64 fu, .int .i64 fa] 24, row k43 43 (.slice A (l).length c) l]) := ⟨H.out.step hb_⟩
      clear H c_f z_f c_d z_d
      have H := n_
      clear n_
      have c_f := H.out.cell (g := gf) mem0
      have z_f := H.out.frozen (g := gf) mem0
      have c_d := H.out.cell (g := gd) mem2
      have z_d := H.out.frozen (g := gd) mem2
      clear hb_
      go_wp2_with fail
      any_goals (exfalso; have := HLEN.out; omega)
      go_loopw [79] (fun v79 wr2 => ∃ i : Nat, v79 = .int .i64 (i : Int) ∧ i ≤ l.length ∧ Aside0 (Sep w wr2 [box gf [.slice Ae (la).length ce, .bool false, .int .i64 (-1), .int .i64 (-1)] 24, row k43 43 (.slice Ae (la).length ce) la, box gd [.slice A l.length c, .bool dn, .int .i64 fu, .int .i64 fa] 24, row k43 43 (.slice A (l).length c) l]))
        (fun v79 _ => l.length - (intOf v79).toNat)
      case atStart => exact ⟨0, rfl, by omega, H⟩
      case round =>
        clear H c_f z_f c_d z_d
        obtain ⟨i, rfl, hi, H⟩ := hrel
        have c_f := H.out.cell (g := gf) mem0
        have z_f := H.out.frozen (g := gf) mem0
        have c_d := H.out.cell (g := gd) mem2
        have z_d := H.out.frozen (g := gd) mem2
        by_cases hil : i < l.length
        · obtain ⟨x, y1, y2, hx, hy, h5, h6, h7, rfl⟩ := crash_file HOK.out l1 hil
          rw [← HLA.out] at hy
          obtain ⟨ad, e1⟩ : ∃ ad, A = some ad := (at_T43 (H.out.reads mem3).2.2 (i : Int) (by omega) (by omega)).imp fun _ h => h.1
          obtain ⟨ad2, e2⟩ : ∃ ad, Ae = some ad := (at_T43 (H.out.reads mem1).2.2 (i : Int) (by omega) (by have := HLEN.out; omega)).imp fun _ h => h.1
          subst e1 e2
          obtain ⟨h0, h1, h2⟩ := at43 (H.out.reads mem3).2.2 hx
          have HX := Aside0.mk hx
          have HY := Aside0.mk hy
          clear hx hy
          have hi0 : (0 : Int) ≤ (i : Int) := by omega
          have hi1 : (i : Int) < (l.length : Int) := by omega
          have hi2 : (i : Int) < (la.length : Int) := by have := HLEN.out; omega
          go_wp2_with (first
              | ((with_reducible refine gate_dst (N := 17) rfl ?_);
                  refine new_box rfl H (cs := [.string ⟨#[]⟩, .string ⟨#[]⟩, .int .i64 0]) (t := 43) ?hr ?_;
                  (case hr => first | (go_simp; done) | (go_simp; rfl));
                  intro gp wd16 n_;
                  clear H c_f z_f c_d z_d;
                  have H := n_;
                  clear n_;
                  have c_p := H.out.cell (g := gp) mem0;
                  have z_p := H.out.frozen (g := gp) mem0;
                  have c_f := H.out.cell (g := gf) mem1;
                  have z_f := H.out.frozen (g := gf) mem1;
                  have c_d := H.out.cell (g := gd) mem3;
                  have z_d := H.out.frozen (g := gd) mem3)
              | ((with_reducible refine gate_store (t := 43) (p := 17) rfl ?_);
                  refine put_box (rs1 := [box gp [.string x.f0, .string x.f1, .int .i64 x.f2] 43, box gf [.slice (some ad2) (la).length ce, .bool false, .int .i64 (-1), .int .i64 (-1)] 24, row k43 43 (.slice (some ad2) (la).length ce) la, box gd [.slice (some ad) l.length c, .bool dn, .int .i64 fu, .int .i64 fa] 24, row k43 43 (.slice (some ad) (l).length c) l]) rfl (t := 43) (p := 17) rfl rfl ?hr (H1 := (Sep.set0 (Sep.set0 (Sep.set0 H.out 0 (.string x.f0) rfl) 1 (.string x.f1) rfl) 2 (.int .i64 x.f2) rfl)) ?_;
                  (case hr => first | (go_simp; done) | (go_simp; rfl));
                  intro wd17 n_;
                  clear H c_p z_p c_f z_f c_d z_d;
                  have H := n_;
                  clear n_;
                  have c_p := H.out.cell (g := gp) mem0;
                  have z_p := H.out.frozen (g := gp) mem0;
                  have c_f := H.out.cell (g := gf) mem1;
                  have z_f := H.out.frozen (g := gf) mem1;
                  have c_d := H.out.cell (g := gd) mem3;
                  have z_d := H.out.frozen (g := gd) mem3;
                  clear h0 h1 h2;
                  obtain ⟨h0, h1, h2⟩ := at43 (H.out.reads mem2).2.2 HY.out)
              | ((with_reducible refine gate_dst (N := 18) rfl ?_);
                  refine new_box rfl H (cs := [.string ⟨#[]⟩, .string ⟨#[]⟩, .int .i64 0]) (t := 43) ?hr ?_;
                  (case hr => first | (go_simp; done) | (go_simp; rfl));
                  intro gq wd18 n_;
                  clear H c_p z_p c_f z_f c_d z_d;
                  have H := n_;
                  clear n_;
                  have c_q := H.out.cell (g := gq) mem0;
                  have z_q := H.out.frozen (g := gq) mem0;
                  have c_p := H.out.cell (g := gp) mem1;
                  have z_p := H.out.frozen (g := gp) mem1;
                  have c_f := H.out.cell (g := gf) mem2;
                  have z_f := H.out.frozen (g := gf) mem2;
                  have c_d := H.out.cell (g := gd) mem4;
                  have z_d := H.out.frozen (g := gd) mem4)
              | ((with_reducible refine gate_store (t := 43) (p := 18) rfl ?_);
                  refine put_box (rs1 := [box gq [.string x.f0, .string y1, .int .i64 (y1.size : Int)] 43, box gp [.string x.f0, .string x.f1, .int .i64 x.f2] 43, box gf [.slice (some ad2) (la).length ce, .bool false, .int .i64 (-1), .int .i64 (-1)] 24, row k43 43 (.slice (some ad2) (la).length ce) la, box gd [.slice (some ad) l.length c, .bool dn, .int .i64 fu, .int .i64 fa] 24, row k43 43 (.slice (some ad) (l).length c) l]) rfl (t := 43) (p := 18) rfl rfl ?hr (H1 := (Sep.set0 (Sep.set0 (Sep.set0 H.out 0 (.string x.f0) rfl) 1 (.string y1) rfl) 2 (.int .i64 (y1.size : Int)) rfl)) ?_;
                  (case hr => first | (go_simp; done) | (go_simp; rfl));
                  intro wd19 n_;
                  clear H c_q z_q c_p z_p c_f z_f c_d z_d;
                  have H := n_;
                  clear n_;
                  have c_q := H.out.cell (g := gq) mem0;
                  have z_q := H.out.frozen (g := gq) mem0;
                  have c_p := H.out.cell (g := gp) mem1;
                  have z_p := H.out.frozen (g := gp) mem1;
                  have c_f := H.out.cell (g := gf) mem2;
                  have z_f := H.out.frozen (g := gf) mem2;
                  have c_d := H.out.cell (g := gd) mem4;
                  have z_d := H.out.frozen (g := gd) mem4)
              | fail)
          have d1 : decide ((y1.size : Int) < x.f2) = false := decide_eq_false (by omega)
          have d2 : decide (x.f1.size < y1.size) = false := decide_eq_false (by omega)
          have d3 : (y1.size : Int) ≤ (x.f1.size : Int) := by omega
          have d4 : (0 : Int) ≤ (y1.size : Int) := by omega
          go_quiet (fail)
          go_wp2
          refine ⟨⟨i + 1, by congr 1, by omega, ⟨?_⟩⟩, by simp [intOf]; omega⟩
          exact (Sep.drop0 (Sep.drop1 (Sep.drewN H.out _)))
        · go_wp2
          go_ret
          exact ⟨rfl, H.out.below⟩
end Go.Proofs.Ytanonhipicoigaa.T
