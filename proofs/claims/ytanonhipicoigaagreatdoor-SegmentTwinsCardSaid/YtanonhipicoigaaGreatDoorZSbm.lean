import Derived.BigRegion
import Derived.LoopN
import Derived.Deep.DeepCutAuto
import Derived.Test.YtanonhipicoigaaGreatDoorZSag
import Derived.Test.YtanonhipicoigaaGreatDoorZSbl
namespace Go.Proofs.YtanonhipicoigaaGreatDoor.U
open Go.RowKit Go.Proofs.YtanonhipicoigaaGreatDoorW.PrintWords Go.Proofs.YtanonhipicoigaaGreatDoorW.PrintLast Go.Proofs.YtanonhipicoigaaGreatDoorW.PrintMore Go.Proofs.YtanonhipicoigaaGreatDoor.Sp Go.Proofs.YtanonhipicoigaaGreatDoor.SegP
set_option linter.unusedVariables false
set_option linter.unusedSimpArgs false
/-- A store into a row of files. -/
theorem put_file {b W : World} {pre post : List Res} {g c j n : Nat} {l l' : List S67} {u : Value} (hn : n = l.length) (H : Sep b W (pre ++ row k67 67 (.slice (some ⟨g, 0, none⟩) n c) l :: post)) (hl : l'.length = l.length) (he : (cellsOf l).set j u = cellsOf l') (hj : j < l.length * 3) :
    Sep b (W.setCell ⟨g, j, none⟩ u) (pre ++ row k67 67 (.slice (some ⟨g, 0, none⟩) n c) l' :: post) := by
  subst hn
  refine H.upd (r' := row k67 67 (.slice (some ⟨g, 0, none⟩) l.length c) l') ((Upd.setCell W ⟨g, j, none⟩ u).mono fun k hk => ?_) ?_ (fun k hk => .inl hk)
  · show (Value.slice (some ⟨g, 0, none⟩) l.length c).ownBlock = some k
    rw [hk]
    rfl
  · have hr : Kd.R k67 67 W 0 (fun k => (Value.slice (some ⟨g, 0, none⟩) l.length c).ownBlock = some k) (.slice (some ⟨g, 0, none⟩) l.length c) l := H.all (rowF (some ⟨g, 0, none⟩) c l) (by simp)
    have h2 := R_put (Kd.R_mono hr (fun _ _ => trivial)) hl he hj
    rw [hl] at h2
    exact Kd.R_flat k67_flat h2 (fun k hk _ => hk)
set_option maxHeartbeats 8000000 in
set_option maxRecDepth 100000 in
theorem twins_any (Ad : Option Addr) (cd : Nat) (data : List ByteArray) (size : Int) (junk : ByteArray) (w : World) (hr : Kd.C Kd.string w Ad data.length data) (hc : data.length ≤ cd) (hG : Gl w) :
    Calls Tryz.prog 5 #[.int .i64 size, .slice Ad data.length cd, .string junk] w fun e w' => e = .returned (.bool true) ∧ Below w.heap.size w w' := by
  have HRp := Aside0.mk hr
  have HCp := Aside0.mk hc
  have HG := Aside0.mk hG
  have HDL : Aside0 (data.length ≤ 9223372036854775807) := ⟨Kd.C_max hr⟩
  clear hr hc hG
  have H := Aside0.mk (Sep.start w)
  go_enter Tryz.func5, Tryz.ntmps5
  go_wp2_with fail
  refine ((lives_any _ (HG.out.below H.out.below)).mono ?_)
  rintro e wd1 ⟨rfl, hb_⟩
  have n_ : Aside0 (Sep w wd1 []) := ⟨H.out.step hb_⟩
  clear H
  have H := n_
  clear n_
  clear hb_
  go_wp2_with fail
  refine ((penstocklaw10_whole.calls [] false (-1) (-1) _ rfl).mono ?_)
  rintro e wd2 ⟨v_, rfl, ho_, hb_⟩
  obtain ⟨Af, cf, eo_⟩ := Kd.R_slice ho_
  subst eo_
  have n_ : Aside0 (Sep w wd2 [row k67 67 (.slice Af (([] : List S67)).length cf) (([] : List S67))]) := ⟨Sep.push_row H.out hb_ ho_ k67_flat⟩
  clear H
  have H := n_
  clear n_
  clear ho_ hb_
  by_cases hsz : size < 1 ∨ 262144 < size
  ·
    have HO := Aside0.mk (fun A c w hr hc hG => open_any A c [] false (-1) (-1) size w hr hc hG)
    rw [open_bad hsz] at HO
    dsimp only at HO
    go_wp2_with fail
    refine ((HO.out _ _ _ (H.out.reads mem0).2.2 (H.out.reads mem0).2.1 (HG.out.below H.out.below)).mono ?_)
    rintro e wd3 ⟨A1, c1, A2, c2, rfl, HJ⟩
    have n_ : Aside0 (Sep w wd3 [row k67 67 (.slice A1 (Lz.l).length c1) Lz.l, row k62 62 (.slice A2 (([] : List S62)).length c2) (([] : List S62)), row k67 67 (.slice Af (([] : List S67)).length cf) (([] : List S67))]) := ⟨sep_join H.out HJ.out⟩
    clear H
    have H := n_
    clear n_
    clear HJ
    simp only [lgc, Lz, List.length_nil]
    go_wp2_with (first
 | ((with_reducible refine gate_dst (N := 7) rfl ?_);
    refine new_box rfl H (cs := [.slice none 0 0, .bool false, .int .i64 0, .int .i64 0, .int .i64 0, .int .u64 0, .int .u64 0, .bool false]) (t := 30) ?hr ?_;
    (case hr => first | (go_simp; done) | (go_simp; rfl));
    intro ga wd4 n_;
    simp only [Act.put, List.setIfInBounds_toArray, List.set_cons_zero, List.set_cons_succ];
    clear H;
    have H := n_;
    clear n_;
    have c_a := H.out.cell (g := ga) mem0;
    have z_a := H.out.frozen (g := ga) mem0)
 | ((with_reducible refine gate_store (t := 30) (p := 7) rfl ?_);
    refine put_box (rs1 := [box ga [.slice A1 0 c1, .bool false, .int .i64 0, .int .i64 0, .int .i64 0, .int .u64 0, .int .u64 0, .bool false] 30, row k67 67 (.slice A1 (Lz.l).length c1) Lz.l, row k62 62 (.slice A2 (([] : List S62)).length c2) (([] : List S62)), row k67 67 (.slice Af (([] : List S67)).length cf) (([] : List S67))]) rfl (t := 30) (p := 7) rfl rfl ?hr (H1 := (Sep.set0 (Sep.set0 (Sep.set0 (Sep.set0 (Sep.set0 (Sep.set0 (Sep.set0 (Sep.set0 H.out 0 (.slice A1 0 c1) rfl) 1 (.bool false) rfl) 2 (.int .i64 0) rfl) 3 (.int .i64 0) rfl) 4 (.int .i64 0) rfl) 5 (.int .u64 0) rfl) 6 (.int .u64 0) rfl) 7 (.bool false) rfl)) ?_;
    (case hr => first | (go_simp; done) | (go_simp; rfl));
    intro wd5 n_;
    clear H c_a z_a;
    have H := n_;
    clear n_;
    have c_a := H.out.cell (g := ga) mem0;
    have z_a := H.out.frozen (g := ga) mem0)
 | fail)
    refine ((penstocklaw10_whole.calls [] false (-1) (-1) _ rfl).mono ?_)
    rintro e wd6 ⟨v_, rfl, ho_, hb_⟩
    obtain ⟨Ah, ch, eo_⟩ := Kd.R_slice ho_
    subst eo_
    have n_ : Aside0 (Sep w wd6 [row k67 67 (.slice Ah (([] : List S67)).length ch) (([] : List S67)), box ga [.slice A1 0 c1, .bool false, .int .i64 0, .int .i64 0, .int .i64 0, .int .u64 0, .int .u64 0, .bool false] 30, row k67 67 (.slice A1 (Lz.l).length c1) Lz.l, row k62 62 (.slice A2 (([] : List S62)).length c2) (([] : List S62)), row k67 67 (.slice Af (([] : List S67)).length cf) (([] : List S67))]) := ⟨Sep.push_row H.out hb_ ho_ k67_flat⟩
    clear H c_a z_a
    have H := n_
    clear n_
    have c_a := H.out.cell (g := ga) mem1
    have z_a := H.out.frozen (g := ga) mem1
    clear ho_ hb_
    go_wp2_with fail
    refine ((HO.out _ _ _ (H.out.reads mem0).2.2 (H.out.reads mem0).2.1 (HG.out.below H.out.below)).mono ?_)
    rintro e wd7 ⟨A3, c3, A4, c4, rfl, HJ⟩
    have n_ : Aside0 (Sep w wd7 [row k67 67 (.slice A3 (Lz.l).length c3) Lz.l, row k62 62 (.slice A4 (([] : List S62)).length c4) (([] : List S62)), row k67 67 (.slice Ah (([] : List S67)).length ch) (([] : List S67)), box ga [.slice A1 0 c1, .bool false, .int .i64 0, .int .i64 0, .int .i64 0, .int .u64 0, .int .u64 0, .bool false] 30, row k67 67 (.slice A1 (Lz.l).length c1) Lz.l, row k62 62 (.slice A2 (([] : List S62)).length c2) (([] : List S62)), row k67 67 (.slice Af (([] : List S67)).length cf) (([] : List S67))]) := ⟨sep_join H.out HJ.out⟩
    clear H c_a z_a
    have H := n_
    clear n_
    have c_a := H.out.cell (g := ga) mem3
    have z_a := H.out.frozen (g := ga) mem3
    clear HJ
    simp only [lgc, Lz, List.length_nil]
    go_wp2_with (first
 | ((with_reducible refine gate_dst (N := 10) rfl ?_);
    refine new_box rfl H (cs := [.slice none 0 0, .bool false, .int .i64 0, .int .i64 0, .int .i64 0, .int .u64 0, .int .u64 0, .bool false]) (t := 30) ?hr ?_;
    (case hr => first | (go_simp; done) | (go_simp; rfl));
    intro gb wd8 n_;
    simp only [Act.put, List.setIfInBounds_toArray, List.set_cons_zero, List.set_cons_succ];
    clear H c_a z_a;
    have H := n_;
    clear n_;
    have c_b := H.out.cell (g := gb) mem0;
    have z_b := H.out.frozen (g := gb) mem0;
    have c_a := H.out.cell (g := ga) mem4)
 | ((with_reducible refine gate_store (t := 30) (p := 10) rfl ?_);
    refine put_box (rs1 := [box gb [.slice A3 0 c3, .bool false, .int .i64 0, .int .i64 0, .int .i64 0, .int .u64 0, .int .u64 0, .bool false] 30, row k67 67 (.slice A3 (Lz.l).length c3) Lz.l, row k62 62 (.slice A4 (([] : List S62)).length c4) (([] : List S62)), row k67 67 (.slice Ah (([] : List S67)).length ch) (([] : List S67)), box ga [.slice A1 0 c1, .bool false, .int .i64 0, .int .i64 0, .int .i64 0, .int .u64 0, .int .u64 0, .bool false] 30, row k67 67 (.slice A1 (Lz.l).length c1) Lz.l, row k62 62 (.slice A2 (([] : List S62)).length c2) (([] : List S62)), row k67 67 (.slice Af (([] : List S67)).length cf) (([] : List S67))]) rfl (t := 30) (p := 10) rfl rfl ?hr (H1 := (Sep.set0 (Sep.set0 (Sep.set0 (Sep.set0 (Sep.set0 (Sep.set0 (Sep.set0 (Sep.set0 H.out 0 (.slice A3 0 c3) rfl) 1 (.bool false) rfl) 2 (.int .i64 0) rfl) 3 (.int .i64 0) rfl) 4 (.int .i64 0) rfl) 5 (.int .u64 0) rfl) 6 (.int .u64 0) rfl) 7 (.bool false) rfl)) ?_;
    (case hr => first | (go_simp; done) | (go_simp; rfl));
    intro wd9 n_;
    clear H c_b z_b c_a;
    have H := n_;
    clear n_;
    have c_b := H.out.cell (g := gb) mem0;
    have z_b := H.out.frozen (g := gb) mem0;
    have c_a := H.out.cell (g := ga) mem4)
 | fail)
    go_ret
    exact ⟨rfl, H.out.below⟩
  ·
    have hs0 : 1 ≤ size := by omega
    have hs1 : size ≤ 262144 := by omega
    have HO := Aside0.mk (fun A c w hr hc hG => open_any A c [] false (-1) (-1) size w hr hc hG)
    rw [open_nil hs0 hs1] at HO
    dsimp only at HO
    go_wp2_with fail
    refine ((HO.out _ _ _ (H.out.reads mem0).2.2 (H.out.reads mem0).2.1 (HG.out.below H.out.below)).mono ?_)
    rintro e wd10 ⟨A1, c1, A2, c2, rfl, HJ⟩
    have n_ : Aside0 (Sep w wd10 [row k67 67 (.slice A1 ((L0s size).l).length c1) ((L0s size).l), row k62 62 (.slice A2 (([] : List S62)).length c2) (([] : List S62)), row k67 67 (.slice Af (([] : List S67)).length cf) (([] : List S67))]) := ⟨sep_join H.out HJ.out⟩
    clear H
    have H := n_
    clear n_
    clear HJ
    simp only [lgc, L0s, List.length_nil]
    go_wp2_with (first
 | ((with_reducible refine gate_dst (N := 7) rfl ?_);
    refine new_box rfl H (cs := [.slice none 0 0, .bool false, .int .i64 0, .int .i64 0, .int .i64 0, .int .u64 0, .int .u64 0, .bool false]) (t := 30) ?hr ?_;
    (case hr => first | (go_simp; done) | (go_simp; rfl));
    intro ga wd11 n_;
    simp only [Act.put, List.setIfInBounds_toArray, List.set_cons_zero, List.set_cons_succ];
    clear H;
    have H := n_;
    clear n_;
    have c_a := H.out.cell (g := ga) mem0;
    have z_a := H.out.frozen (g := ga) mem0)
 | ((with_reducible refine gate_store (t := 30) (p := 7) rfl ?_);
    refine put_box (rs1 := [box ga [.slice A1 0 c1, .bool false, .int .i64 (-1), .int .i64 (-1), .int .i64 size, .int .u64 1, .int .u64 1, .bool false] 30, row k67 67 (.slice A1 ((L0s size).l).length c1) ((L0s size).l), row k62 62 (.slice A2 (([] : List S62)).length c2) (([] : List S62)), row k67 67 (.slice Af (([] : List S67)).length cf) (([] : List S67))]) rfl (t := 30) (p := 7) rfl rfl ?hr (H1 := (Sep.set0 (Sep.set0 (Sep.set0 (Sep.set0 (Sep.set0 (Sep.set0 (Sep.set0 (Sep.set0 H.out 0 (.slice A1 0 c1) rfl) 1 (.bool false) rfl) 2 (.int .i64 (-1)) rfl) 3 (.int .i64 (-1)) rfl) 4 (.int .i64 size) rfl) 5 (.int .u64 1) rfl) 6 (.int .u64 1) rfl) 7 (.bool false) rfl)) ?_;
    (case hr => first | (go_simp; done) | (go_simp; rfl));
    intro wd12 n_;
    clear H c_a z_a;
    have H := n_;
    clear n_;
    have c_a := H.out.cell (g := ga) mem0;
    have z_a := H.out.frozen (g := ga) mem0)
 | fail)
    refine ((penstocklaw10_whole.calls [] false (-1) (-1) _ rfl).mono ?_)
    rintro e wd13 ⟨v_, rfl, ho_, hb_⟩
    obtain ⟨Ah, ch, eo_⟩ := Kd.R_slice ho_
    subst eo_
    have n_ : Aside0 (Sep w wd13 [row k67 67 (.slice Ah (([] : List S67)).length ch) (([] : List S67)), box ga [.slice A1 0 c1, .bool false, .int .i64 (-1), .int .i64 (-1), .int .i64 size, .int .u64 1, .int .u64 1, .bool false] 30, row k67 67 (.slice A1 ((L0s size).l).length c1) ((L0s size).l), row k62 62 (.slice A2 (([] : List S62)).length c2) (([] : List S62)), row k67 67 (.slice Af (([] : List S67)).length cf) (([] : List S67))]) := ⟨Sep.push_row H.out hb_ ho_ k67_flat⟩
    clear H c_a z_a
    have H := n_
    clear n_
    have c_a := H.out.cell (g := ga) mem1
    have z_a := H.out.frozen (g := ga) mem1
    clear ho_ hb_
    go_wp2_with fail
    refine ((HO.out _ _ _ (H.out.reads mem0).2.2 (H.out.reads mem0).2.1 (HG.out.below H.out.below)).mono ?_)
    rintro e wd14 ⟨A3, c3, A4, c4, rfl, HJ⟩
    have n_ : Aside0 (Sep w wd14 [row k67 67 (.slice A3 ((L0s size).l).length c3) ((L0s size).l), row k62 62 (.slice A4 (([] : List S62)).length c4) (([] : List S62)), row k67 67 (.slice Ah (([] : List S67)).length ch) (([] : List S67)), box ga [.slice A1 0 c1, .bool false, .int .i64 (-1), .int .i64 (-1), .int .i64 size, .int .u64 1, .int .u64 1, .bool false] 30, row k67 67 (.slice A1 ((L0s size).l).length c1) ((L0s size).l), row k62 62 (.slice A2 (([] : List S62)).length c2) (([] : List S62)), row k67 67 (.slice Af (([] : List S67)).length cf) (([] : List S67))]) := ⟨sep_join H.out HJ.out⟩
    clear H c_a z_a
    have H := n_
    clear n_
    have c_a := H.out.cell (g := ga) mem3
    have z_a := H.out.frozen (g := ga) mem3
    clear HJ
    simp only [lgc, L0s, List.length_nil]
    go_wp2_with (first
 | ((with_reducible refine gate_dst (N := 10) rfl ?_);
    refine new_box rfl H (cs := [.slice none 0 0, .bool false, .int .i64 0, .int .i64 0, .int .i64 0, .int .u64 0, .int .u64 0, .bool false]) (t := 30) ?hr ?_;
    (case hr => first | (go_simp; done) | (go_simp; rfl));
    intro gb wd15 n_;
    simp only [Act.put, List.setIfInBounds_toArray, List.set_cons_zero, List.set_cons_succ];
    clear H c_a z_a;
    have H := n_;
    clear n_;
    have c_b := H.out.cell (g := gb) mem0;
    have z_b := H.out.frozen (g := gb) mem0;
    have c_a := H.out.cell (g := ga) mem4)
 | ((with_reducible refine gate_store (t := 30) (p := 10) rfl ?_);
    refine put_box (rs1 := [box gb [.slice A3 0 c3, .bool false, .int .i64 (-1), .int .i64 (-1), .int .i64 size, .int .u64 1, .int .u64 1, .bool false] 30, row k67 67 (.slice A3 ((L0s size).l).length c3) ((L0s size).l), row k62 62 (.slice A4 (([] : List S62)).length c4) (([] : List S62)), row k67 67 (.slice Ah (([] : List S67)).length ch) (([] : List S67)), box ga [.slice A1 0 c1, .bool false, .int .i64 (-1), .int .i64 (-1), .int .i64 size, .int .u64 1, .int .u64 1, .bool false] 30, row k67 67 (.slice A1 ((L0s size).l).length c1) ((L0s size).l), row k62 62 (.slice A2 (([] : List S62)).length c2) (([] : List S62)), row k67 67 (.slice Af (([] : List S67)).length cf) (([] : List S67))]) rfl (t := 30) (p := 10) rfl rfl ?hr (H1 := (Sep.set0 (Sep.set0 (Sep.set0 (Sep.set0 (Sep.set0 (Sep.set0 (Sep.set0 (Sep.set0 H.out 0 (.slice A3 0 c3) rfl) 1 (.bool false) rfl) 2 (.int .i64 (-1)) rfl) 3 (.int .i64 (-1)) rfl) 4 (.int .i64 size) rfl) 5 (.int .u64 1) rfl) 6 (.int .u64 1) rfl) 7 (.bool false) rfl)) ?_;
    (case hr => first | (go_simp; done) | (go_simp; rfl));
    intro wd16 n_;
    clear H c_b z_b c_a;
    have H := n_;
    clear n_;
    have c_b := H.out.cell (g := gb) mem0;
    have z_b := H.out.frozen (g := gb) mem0;
    have c_a := H.out.cell (g := ga) mem4)
 | fail)
    have HW0 := Aside0.mk (WF_nil hs0 hs1)
    clear hsz hs0 hs1 HO
    go_loopw [6, 14, 15, 16, 17, 18, 19, 47] (fun v6 v14 v15 v16 v17 v18 v19 v47 wr => ∃ (i : Nat) (L : Lg) (ds : List SegP.Bytes) (m : Nat) (A : Option Addr) (c : Nat) (B : Option Addr) (d : Nat), v47 = .int .i64 (i : Int) ∧ i ≤ data.length ∧ Aside0 (WF L ds 1 m) ∧ Aside0 (Sep w wr [box ga [.slice A L.l.length c, .bool L.dn, .int .i64 L.fu, .int .i64 L.fa, .int .i64 L.size, .int .u64 L.fr, .int .u64 L.nx, .bool L.br] 30, row k67 67 (.slice A (L.l).length c) L.l, box gb [.slice B L.l.length d, .bool L.dn, .int .i64 L.fu, .int .i64 L.fa, .int .i64 L.size, .int .u64 L.fr, .int .u64 L.nx, .bool L.br] 30, row k67 67 (.slice B (L.l).length d) L.l]))
      (fun _ _ _ _ _ _ _ v47 _ => data.length - (intOf v47).toNat)
    case atStart => exact ⟨0, L0s size, [], 1, A1, c1, A3, c3, rfl, Nat.zero_le _, HW0, ⟨(Sep.front3 (Sep.front3 (Sep.front1 (Sep.front1 (Sep.drop2 (Sep.drop3 (Sep.drop6 (Sep.drop7 H.out))))))))⟩⟩
    case round =>
      clear H c_b z_b c_a
      obtain ⟨i, L, ds, m, A, c, B, d, rfl, hi, HW, H⟩ := hrel
      have HNX : Aside0 (0 ≤ L.nx ∧ L.nx < 18446744073709551616) := ⟨by have h1 := HW.out.nx; have h2 := HW.out.top; unfold most at h2; omega⟩
      have HLL : Aside0 (L.l.length ≤ 64) := ⟨right_len HW.out.right⟩
      have c_a := H.out.cell (g := ga) mem0
      have z_a := H.out.frozen (g := ga) mem0
      have c_b := H.out.cell (g := gb) mem2
      have z_b := H.out.frozen (g := gb) mem2
      by_cases hil : i < data.length
      ·
        obtain ⟨ad, e1, hk⟩ := Kd.at_string (H.out.came HRp.out) (i : Int) (by omega) (by omega)
        subst e1
        simp only [Int.toNat_natCast] at hk
        obtain ⟨s, hs⟩ : ∃ s, s = rdOf ByteArray.empty data (i : Int) := ⟨_, rfl⟩
        rw [← hs] at hk
        clear hs
        have hi2 : (i : Int) < (data.length : Int) := by omega
        have hi0 : (0 : Int) ≤ (i : Int) := by omega
        have hw3 : wrap64 ((i : Int) + 1) = ((i + 1 : Nat) : Int) := by
          have := HDL.out
          unfold wrap64
          omega
        obtain ⟨R, hR⟩ : ∃ R, appendL L s = (R, (appendL L s).2) := ⟨_, rfl⟩
        obtain ⟨e, he⟩ : ∃ e, e = (appendL L s).2 := ⟨_, rfl⟩
        rw [← he] at hR
        clear he
        have HR := Aside0.mk hR
        have HRL : Aside0 (R.l.length ≤ 9223372036854775806) := ⟨by
          have h := (append_len HW.out hR)
          omega⟩
        have HAP := Aside0.mk (fun A c w hr hc hG => append_any A c L s w hr hc hG HNX.out.1 HNX.out.2)
        rw [hR] at HAP
        dsimp only at HAP
        clear hR
        go_wp2_with fail
        refine ((HAP.out _ _ _ (H.out.reads mem1).2.2 (H.out.reads mem1).2.1 (HG.out.below H.out.below)).mono ?_)
        rintro e wd17 ⟨A5, c5, rfl, HJ⟩
        have n_ : Aside0 (Sep w wd17 [row k67 67 (.slice A5 (R.l).length c5) R.l, box ga [.slice A L.l.length c, .bool L.dn, .int .i64 L.fu, .int .i64 L.fa, .int .i64 L.size, .int .u64 L.fr, .int .u64 L.nx, .bool L.br] 30, row k67 67 (.slice A (L.l).length c) L.l, box gb [.slice B L.l.length d, .bool L.dn, .int .i64 L.fu, .int .i64 L.fa, .int .i64 L.size, .int .u64 L.fr, .int .u64 L.nx, .bool L.br] 30, row k67 67 (.slice B (L.l).length d) L.l]) := ⟨sep_join H.out HJ.out⟩
        clear H c_a z_a c_b z_b
        have H := n_
        clear n_
        have c_a := H.out.cell (g := ga) mem1
        have z_a := H.out.frozen (g := ga) mem1
        have c_b := H.out.cell (g := gb) mem3
        have z_b := H.out.frozen (g := gb) mem3
        clear HJ
        simp only [lgc]
        clear hk
        go_wp2_with (first
 | ((with_reducible refine gate_dst (N := 15) rfl ?_);
    refine new_box rfl H (cs := [.slice none 0 0, .bool false, .int .i64 0, .int .i64 0, .int .i64 0, .int .u64 0, .int .u64 0, .bool false]) (t := 30) ?hr ?_;
    (case hr => first | (go_simp; done) | (go_simp; rfl));
    intro gr wd18 n_;
    simp only [Act.put, List.setIfInBounds_toArray, List.set_cons_zero, List.set_cons_succ];
    clear H c_a z_a c_b z_b;
    have H := n_;
    clear n_;
    have c_r := H.out.cell (g := gr) mem0;
    have z_r := H.out.frozen (g := gr) mem0;
    have c_a := H.out.cell (g := ga) mem2;
    have c_b := H.out.cell (g := gb) mem4)
 | ((with_reducible refine gate_store (t := 30) (p := 15) rfl ?_);
    refine put_box (rs1 := [box gr [.slice A5 R.l.length c5, .bool R.dn, .int .i64 R.fu, .int .i64 R.fa, .int .i64 R.size, .int .u64 R.fr, .int .u64 R.nx, .bool R.br] 30, row k67 67 (.slice A5 (R.l).length c5) R.l, box ga [.slice A L.l.length c, .bool L.dn, .int .i64 L.fu, .int .i64 L.fa, .int .i64 L.size, .int .u64 L.fr, .int .u64 L.nx, .bool L.br] 30, row k67 67 (.slice A (L.l).length c) L.l, box gb [.slice B L.l.length d, .bool L.dn, .int .i64 L.fu, .int .i64 L.fa, .int .i64 L.size, .int .u64 L.fr, .int .u64 L.nx, .bool L.br] 30, row k67 67 (.slice B (L.l).length d) L.l]) rfl (t := 30) (p := 15) rfl rfl ?hr (H1 := (Sep.set0 (Sep.set0 (Sep.set0 (Sep.set0 (Sep.set0 (Sep.set0 (Sep.set0 (Sep.set0 H.out 0 (.slice A5 R.l.length c5) rfl) 1 (.bool R.dn) rfl) 2 (.int .i64 R.fu) rfl) 3 (.int .i64 R.fa) rfl) 4 (.int .i64 R.size) rfl) 5 (.int .u64 R.fr) rfl) 6 (.int .u64 R.nx) rfl) 7 (.bool R.br) rfl)) ?_;
    (case hr => first | (go_simp; done) | (go_simp; rfl));
    intro wd19 n_;
    clear H c_r z_r c_a c_b;
    have H := n_;
    clear n_;
    have c_r := H.out.cell (g := gr) mem0;
    have z_r := H.out.frozen (g := gr) mem0;
    have c_a := H.out.cell (g := ga) mem2;
    have c_b := H.out.cell (g := gb) mem4)
 | fail)
        refine ((HAP.out _ _ _ (H.out.reads mem5).2.2 (H.out.reads mem5).2.1 (HG.out.below H.out.below)).mono ?_)
        rintro e wd20 ⟨A6, c6, rfl, HJ⟩
        have n_ : Aside0 (Sep w wd20 [row k67 67 (.slice A6 (R.l).length c6) R.l, box gr [.slice A5 R.l.length c5, .bool R.dn, .int .i64 R.fu, .int .i64 R.fa, .int .i64 R.size, .int .u64 R.fr, .int .u64 R.nx, .bool R.br] 30, row k67 67 (.slice A5 (R.l).length c5) R.l, box ga [.slice A L.l.length c, .bool L.dn, .int .i64 L.fu, .int .i64 L.fa, .int .i64 L.size, .int .u64 L.fr, .int .u64 L.nx, .bool L.br] 30, row k67 67 (.slice A (L.l).length c) L.l, box gb [.slice B L.l.length d, .bool L.dn, .int .i64 L.fu, .int .i64 L.fa, .int .i64 L.size, .int .u64 L.fr, .int .u64 L.nx, .bool L.br] 30, row k67 67 (.slice B (L.l).length d) L.l]) := ⟨sep_join H.out HJ.out⟩
        clear H c_r z_r c_a c_b
        have H := n_
        clear n_
        have c_r := H.out.cell (g := gr) mem1
        have z_r := H.out.frozen (g := gr) mem1
        have c_a := H.out.cell (g := ga) mem3
        have c_b := H.out.cell (g := gb) mem5
        clear HJ
        simp only [lgc]
        clear HAP
        go_wp2_with (first
 | ((with_reducible refine gate_dst (N := 17) rfl ?_);
    refine new_box rfl H (cs := [.slice none 0 0, .bool false, .int .i64 0, .int .i64 0, .int .i64 0, .int .u64 0, .int .u64 0, .bool false]) (t := 30) ?hr ?_;
    (case hr => first | (go_simp; done) | (go_simp; rfl));
    intro gt wd21 n_;
    simp only [Act.put, List.setIfInBounds_toArray, List.set_cons_zero, List.set_cons_succ];
    clear H c_r z_r c_a c_b;
    have H := n_;
    clear n_;
    have c_t := H.out.cell (g := gt) mem0;
    have z_t := H.out.frozen (g := gt) mem0;
    have c_r := H.out.cell (g := gr) mem2;
    have c_a := H.out.cell (g := ga) mem4;
    have c_b := H.out.cell (g := gb) mem6)
 | ((with_reducible refine gate_store (t := 30) (p := 17) rfl ?_);
    refine put_box (rs1 := [box gt [.slice A6 R.l.length c6, .bool R.dn, .int .i64 R.fu, .int .i64 R.fa, .int .i64 R.size, .int .u64 R.fr, .int .u64 R.nx, .bool R.br] 30, row k67 67 (.slice A6 (R.l).length c6) R.l, box gr [.slice A5 R.l.length c5, .bool R.dn, .int .i64 R.fu, .int .i64 R.fa, .int .i64 R.size, .int .u64 R.fr, .int .u64 R.nx, .bool R.br] 30, row k67 67 (.slice A5 (R.l).length c5) R.l, box ga [.slice A L.l.length c, .bool L.dn, .int .i64 L.fu, .int .i64 L.fa, .int .i64 L.size, .int .u64 L.fr, .int .u64 L.nx, .bool L.br] 30, row k67 67 (.slice A (L.l).length c) L.l, box gb [.slice B L.l.length d, .bool L.dn, .int .i64 L.fu, .int .i64 L.fa, .int .i64 L.size, .int .u64 L.fr, .int .u64 L.nx, .bool L.br] 30, row k67 67 (.slice B (L.l).length d) L.l]) rfl (t := 30) (p := 17) rfl rfl ?hr (H1 := (Sep.set0 (Sep.set0 (Sep.set0 (Sep.set0 (Sep.set0 (Sep.set0 (Sep.set0 (Sep.set0 H.out 0 (.slice A6 R.l.length c6) rfl) 1 (.bool R.dn) rfl) 2 (.int .i64 R.fu) rfl) 3 (.int .i64 R.fa) rfl) 4 (.int .i64 R.size) rfl) 5 (.int .u64 R.fr) rfl) 6 (.int .u64 R.nx) rfl) 7 (.bool R.br) rfl)) ?_;
    (case hr => first | (go_simp; done) | (go_simp; rfl));
    intro wd22 n_;
    clear H c_t z_t c_r c_a c_b;
    have H := n_;
    clear n_;
    have c_t := H.out.cell (g := gt) mem0;
    have z_t := H.out.frozen (g := gt) mem0;
    have c_r := H.out.cell (g := gr) mem2;
    have c_a := H.out.cell (g := ga) mem4;
    have c_b := H.out.cell (g := gb) mem6)
 | fail)
        go_loopw [19, 67] (fun v19 v67 wr2 => ∃ (j : Nat) (l5 : List S67), v67 = .int .i64 (j : Int) ∧ j ≤ R.l.length ∧ l5.length = R.l.length ∧ Aside0 (e = 0 → l5 = R.l) ∧ Aside0 (Sep w wr2 [box gt [.slice A6 R.l.length c6, .bool R.dn, .int .i64 R.fu, .int .i64 R.fa, .int .i64 R.size, .int .u64 R.fr, .int .u64 R.nx, .bool R.br] 30, row k67 67 (.slice A6 (R.l).length c6) R.l, box gr [.slice A5 R.l.length c5, .bool R.dn, .int .i64 R.fu, .int .i64 R.fa, .int .i64 R.size, .int .u64 R.fr, .int .u64 R.nx, .bool R.br] 30, row k67 67 (.slice A5 R.l.length c5) l5, box ga [.slice A L.l.length c, .bool L.dn, .int .i64 L.fu, .int .i64 L.fa, .int .i64 L.size, .int .u64 L.fr, .int .u64 L.nx, .bool L.br] 30, row k67 67 (.slice A (L.l).length c) L.l, box gb [.slice B L.l.length d, .bool L.dn, .int .i64 L.fu, .int .i64 L.fa, .int .i64 L.size, .int .u64 L.fr, .int .u64 L.nx, .bool L.br] 30, row k67 67 (.slice B (L.l).length d) L.l]))
          (fun _ v67 _ => R.l.length - (intOf v67).toNat)
        case atStart => exact ⟨0, R.l, rfl, Nat.zero_le _, rfl, ⟨fun _ => rfl⟩, H⟩
        case round =>
          clear H c_t z_t c_r c_a c_b
          obtain ⟨j, l5, rfl, hj, hl5, HL5, H⟩ := hrel
          have c_t := H.out.cell (g := gt) mem0
          have c_r := H.out.cell (g := gr) mem2
          have c_a := H.out.cell (g := ga) mem4
          have z_a := H.out.frozen (g := ga) mem4
          have c_b := H.out.cell (g := gb) mem6
          have z_b := H.out.frozen (g := gb) mem6
          by_cases hjl : j < R.l.length
          ·
            have hj2 : (j : Int) < (R.l.length : Int) := by omega
            have hj0 : (0 : Int) ≤ (j : Int) := by omega
            have hw4 : wrap64 ((j : Int) + 1) = ((j + 1 : Nat) : Int) := by
              have := HRL.out
              unfold wrap64
              omega
            by_cases hz : e = 0
            ·
              subst hz
              go_wp2_with fail
              try rw [hw4]
              exact ⟨⟨j + 1, l5, rfl, by omega, hl5, ⟨fun _ => HL5.out rfl⟩, H⟩, by simp [intOf]; omega⟩
            ·
              obtain ⟨x, hx⟩ : ∃ x, l5[j]? = some x := ⟨_, List.getElem?_eq_getElem (by omega)⟩
              have hrow := H.out.row_ (d := k67) (e := 67) (v := .slice A5 R.l.length c5) (l := l5) mem3
              obtain ⟨gp, cur, hA, -, -, hh, -, -, -, h6⟩ := R_block hrow (by omega)
              subst hA
              obtain ⟨q0, q1, q2⟩ := cellsOf_get _ j x hx
              have s4 := R_cell hh h6 q1
              have s5 := blk_frozen hh (j * 3 + 1)
              have HX1 := Aside0.mk (cellsOf_set1 l5 j x junk hx)
              clear hrow h6 q0 q1 q2 hh hx
              go_wp2_with (first
 | ((with_reducible refine gate_store (t := 9) (p := 78) rfl ?_);
    refine put_box (rs1 := [box gt [.slice A6 R.l.length c6, .bool R.dn, .int .i64 R.fu, .int .i64 R.fa, .int .i64 R.size, .int .u64 R.fr, .int .u64 R.nx, .bool R.br] 30, row k67 67 (.slice A6 (R.l).length c6) R.l, box gr [.slice (some ⟨gp, 0, none⟩) R.l.length c5, .bool R.dn, .int .i64 R.fu, .int .i64 R.fa, .int .i64 R.size, .int .u64 R.fr, .int .u64 R.nx, .bool R.br] 30, row k67 67 (.slice (some ⟨gp, 0, none⟩) R.l.length c5) (l5.set j ⟨x.f0, junk, x.f2⟩), box ga [.slice A L.l.length c, .bool L.dn, .int .i64 L.fu, .int .i64 L.fa, .int .i64 L.size, .int .u64 L.fr, .int .u64 L.nx, .bool L.br] 30, row k67 67 (.slice A (L.l).length c) L.l, box gb [.slice B L.l.length d, .bool L.dn, .int .i64 L.fu, .int .i64 L.fa, .int .i64 L.size, .int .u64 L.fr, .int .u64 L.nx, .bool L.br] 30, row k67 67 (.slice B (L.l).length d) L.l]) rfl (t := 9) (p := 78) rfl rfl ?hr (H1 := (put_file (pre := [box gt [.slice A6 R.l.length c6, .bool R.dn, .int .i64 R.fu, .int .i64 R.fa, .int .i64 R.size, .int .u64 R.fr, .int .u64 R.nx, .bool R.br] 30, row k67 67 (.slice A6 (R.l).length c6) R.l, box gr [.slice (some ⟨gp, 0, none⟩) R.l.length c5, .bool R.dn, .int .i64 R.fu, .int .i64 R.fa, .int .i64 R.size, .int .u64 R.fr, .int .u64 R.nx, .bool R.br] 30]) (l' := (l5.set j ⟨x.f0, junk, x.f2⟩)) (j := j * 3 + 1) (u := .string junk) hl5.symm H.out (by simp) HX1.out (by omega))) ?_;
    (case hr => first | (go_simp; done) | (go_simp; rfl));
    intro wd23 n_;
    clear s4 s5;
    clear H c_t c_r c_a z_a c_b z_b;
    have H := n_;
    clear n_;
    have c_t := H.out.cell (g := gt) mem0;
    have c_r := H.out.cell (g := gr) mem2;
    have c_a := H.out.cell (g := ga) mem4;
    have z_a := H.out.frozen (g := ga) mem4;
    have c_b := H.out.cell (g := gb) mem6;
    have z_b := H.out.frozen (g := gb) mem6)
 | fail)
              try rw [hw4]
              exact ⟨⟨j + 1, (l5.set j ⟨x.f0, junk, x.f2⟩), rfl, by omega, by rw [List.length_set]; exact hl5, ⟨fun h => absurd h hz⟩, H⟩, by simp [intOf]; omega⟩
          ·
            have hje : j = R.l.length := by omega
            subst hje
            have hjn : ¬ (R.l.length : Int) < (R.l.length : Int) := by omega
            by_cases hz : e = 0
            ·
              subst hz
              have hl6 : l5 = R.l := HL5.out rfl
              subst hl6
              clear HL5 hl5
              have ne_ta : ¬ gt = ga := sep_ne H.out (i := 0) (j := 4) rfl rfl (by decide)
              have ne_at : ¬ ga = gt := fun e => ne_ta e.symm
              have ne_tb : ¬ gt = gb := sep_ne H.out (i := 0) (j := 6) rfl rfl (by decide)
              have ne_bt : ¬ gb = gt := fun e => ne_tb e.symm
              have ne_ra : ¬ gr = ga := sep_ne H.out (i := 2) (j := 4) rfl rfl (by decide)
              have ne_ar : ¬ ga = gr := fun e => ne_ra e.symm
              have ne_rb : ¬ gr = gb := sep_ne H.out (i := 2) (j := 6) rfl rfl (by decide)
              have ne_br : ¬ gb = gr := fun e => ne_rb e.symm
              have ne_ab : ¬ ga = gb := sep_ne H.out (i := 4) (j := 6) rfl rfl (by decide)
              have ne_ba : ¬ gb = ga := fun e => ne_ab e.symm
              go_upto_region 21 with fail
              go_region
              clear ne_ta ne_at ne_tb ne_bt ne_ra ne_ar ne_rb ne_br ne_ab ne_ba
              refine gen_k (rs := [box gt [.slice A6 R.l.length c6, .bool R.dn, .int .i64 R.fu, .int .i64 R.fa, .int .i64 R.size, .int .u64 R.fr, .int .u64 R.nx, .bool R.br] 30, row k67 67 (.slice A6 (R.l).length c6) R.l, box gr [.slice A5 R.l.length c5, .bool R.dn, .int .i64 R.fu, .int .i64 R.fa, .int .i64 R.size, .int .u64 R.fr, .int .u64 R.nx, .bool R.br] 30, row k67 67 (.slice A5 (R.l).length c5) R.l, box ga [.slice A5 R.l.length c5, .bool R.dn, .int .i64 R.fu, .int .i64 R.fa, .int .i64 R.size, .int .u64 R.fr, .int .u64 R.nx, .bool R.br] 30, row k67 67 (.slice A (L.l).length c) L.l, box gb [.slice A6 R.l.length c6, .bool R.dn, .int .i64 R.fu, .int .i64 R.fa, .int .i64 R.size, .int .u64 R.fr, .int .u64 R.nx, .bool R.br] 30, row k67 67 (.slice B (L.l).length d) L.l]) (Sep.drew (Sep.set6 (Sep.set6 (Sep.set6 (Sep.set6 (Sep.set6 (Sep.set6 (Sep.set6 (Sep.set6 (Sep.set4 (Sep.set4 (Sep.set4 (Sep.set4 (Sep.set4 (Sep.set4 (Sep.set4 (Sep.set4 H.out 0 (.slice A5 R.l.length c5) rfl) 1 (.bool R.dn) rfl) 2 (.int .i64 R.fu) rfl) 3 (.int .i64 R.fa) rfl) 4 (.int .i64 R.size) rfl) 5 (.int .u64 R.fr) rfl) 6 (.int .u64 R.nx) rfl) 7 (.bool R.br) rfl) 0 (.slice A6 R.l.length c6) rfl) 1 (.bool R.dn) rfl) 2 (.int .i64 R.fu) rfl) 3 (.int .i64 R.fa) rfl) 4 (.int .i64 R.size) rfl) 5 (.int .u64 R.fr) rfl) 6 (.int .u64 R.nx) rfl) 7 (.bool R.br) rfl)) ?_
              intro wd24 n_
              clear H c_t c_r c_a z_a c_b z_b
              have H := n_
              clear n_
              have c_t := H.out.cell (g := gt) mem0
              have c_r := H.out.cell (g := gr) mem2
              have c_a := H.out.cell (g := ga) mem4
              have z_a := H.out.frozen (g := ga) mem4
              have c_b := H.out.cell (g := gb) mem6
              have z_b := H.out.frozen (g := gb) mem6
              go_wp2_with fail
              try rw [hw3]
              exact ⟨⟨i + 1, R, ds ++ [byt s], m + 1, A5, c5, A6, c6, rfl, by omega, ⟨(append_ok HW.out HR.out).1⟩, ⟨(Sep.front3 (Sep.front2 (Sep.front3 (Sep.drop0 (Sep.drop2 (Sep.drop5 (Sep.drop7 H.out)))))))⟩⟩, by simp [intOf]; omega⟩
            ·
              go_wp2_with fail
              try rw [hw3]
              exact ⟨⟨i + 1, L, ds, m, A, c, B, d, rfl, by omega, HW, ⟨(Sep.drop0 (Sep.drop1 (Sep.drop2 (Sep.drop3 H.out))))⟩⟩, by simp [intOf]; omega⟩
      ·
        have hie : i = data.length := by omega
        subst hie
        have hin : ¬ (data.length : Int) < (data.length : Int) := by omega
        have HSM := Aside0.mk (same10_refl L HLL.out)
        go_wp2_with fail
        refine ((penstockref10_Same.calls 70 A c L.l L.dn L.fu L.fa L.size L.fr L.nx L.br B d L.l L.dn L.fu L.fa L.size L.fr L.nx L.br true _ (H.out.reads mem1).2.2 (H.out.reads mem1).2.1 (H.out.reads mem3).2.2 (H.out.reads mem3).2.1 HSM.out).mono ?_)
        rintro e wd25 ⟨rfl, hb_⟩
        have n_ : Aside0 (Sep w wd25 [box ga [.slice A L.l.length c, .bool L.dn, .int .i64 L.fu, .int .i64 L.fa, .int .i64 L.size, .int .u64 L.fr, .int .u64 L.nx, .bool L.br] 30, row k67 67 (.slice A (L.l).length c) L.l, box gb [.slice B L.l.length d, .bool L.dn, .int .i64 L.fu, .int .i64 L.fa, .int .i64 L.size, .int .u64 L.fr, .int .u64 L.nx, .bool L.br] 30, row k67 67 (.slice B (L.l).length d) L.l]) := ⟨H.out.step hb_⟩
        clear H c_a z_a c_b z_b
        have H := n_
        clear n_
        have c_a := H.out.cell (g := ga) mem0
        have z_a := H.out.frozen (g := ga) mem0
        have c_b := H.out.cell (g := gb) mem2
        have z_b := H.out.frozen (g := gb) mem2
        clear hb_
        go_wp2_with fail
        go_ret
        exact ⟨rfl, H.out.below⟩
end Go.Proofs.YtanonhipicoigaaGreatDoor.U
