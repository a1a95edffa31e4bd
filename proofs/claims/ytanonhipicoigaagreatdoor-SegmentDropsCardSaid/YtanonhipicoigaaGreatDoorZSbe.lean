import Derived.BigRegion
import Derived.LoopN
import Derived.Deep.DeepCutAuto
import Derived.Test.YtanonhipicoigaaGreatDoorZSag
namespace Go.Proofs.YtanonhipicoigaaGreatDoor.U
open Go.RowKit Go.Proofs.YtanonhipicoigaaGreatDoorW.PrintWords Go.Proofs.YtanonhipicoigaaGreatDoorW.PrintLast Go.Proofs.YtanonhipicoigaaGreatDoorW.PrintMore Go.Proofs.YtanonhipicoigaaGreatDoor.Sp Go.Proofs.YtanonhipicoigaaGreatDoor.SegP
set_option linter.unusedVariables false
set_option linter.unusedSimpArgs false
theorem C62_suf {w : World} {A : Option Addr} {c : Nat} {a b : List S62} (h : Kd.C k62 w A (a ++ b).length (a ++ b)) (hc : (a ++ b).length ≤ c) : Kd.C k62 w (if c = a.length then A else A.map (·.add (a.length * 2))) b.length b := by
  obtain ⟨h1, h2, h3⟩ := h
  rw [List.length_append] at h2 h3 hc
  refine ⟨rfl, by omega, fun hlt => ?_⟩
  rw [if_neg (by omega)]
  obtain ⟨ad, e, h4⟩ := h3 (by omega)
  subst e
  refine ⟨_, rfl, fun j p hj => ?_⟩
  obtain ⟨cs, x, y, d⟩ := h4 (a.length + j) p (by rw [List.getElem?_append_right (by omega)]; simpa using hj)
  refine ⟨cs, x, y, fun k u hk => ?_⟩
  have e := d k u hk
  rw [Go.Deep.add_add, ← e]
  have hs : k62.sz = 2 := rfl
  rw [hs, show a.length * 2 + (j * 2 + k) = (a.length + j) * 2 + k by omega]
/-- What SegmentDrops asks for. -/
theorem drops_plain {size : Int} {data : List ByteArray} {last : ByteArray} {R : Lg} {want : List S62} (h : keptF size data last (-1) (-1) = (R, want, 0)) :
    ∃ ds, want = recR ds 1 ∧ WF R ds 1 (1 + ds.length) ∧ (∀ q, q ≤ R.nx → ∃ R2 d0 d1, dropL R q = (R2, 0) ∧ WF R2 d1 (1 + d0.length) (1 + ds.length) ∧ ds = d0 ++ d1 ∧ (d0 = [] ∨ (d0.length : Int) < q) ∧ R2.size = size) ∧ (∀ q, R.nx < q → dropL R q = (R, 2)) := by
  have hs : ¬ (size < 1 ∨ 262144 < size) := fun hb => by
    rw [kept_bad data last (-1) (-1) hb] at h
    have := (Prod.mk.inj (Prod.mk.inj h).2).2
    omega
  obtain ⟨ds, _, hw, _, h1, h2, _⟩ := kept_spec (by omega) (by omega) h
  obtain ⟨w1, w2, w3⟩ := h1 rfl
  obtain ⟨u1, u2⟩ := h2 rfl rfl rfl
  refine ⟨ds, hw, w1, fun q hq => ?_, fun q hq => dropL_not w1 hq⟩
  obtain ⟨R2, d0, d1, k1, k2, k3, k4, k5, _⟩ := dropL_ok w1 u1 u2 hq
  exact ⟨R2, d0, d1, k1, k2, k3, k4.imp id (fun h => by omega), by rw [k5, w3]⟩
set_option maxHeartbeats 8000000 in
set_option maxRecDepth 100000 in
theorem drops_any (Ad : Option Addr) (cd : Nat) (data : List ByteArray) (size q : Int) (hq0 : 0 ≤ q) (w : World) (hr : Kd.C Kd.string w Ad data.length data) (hc : data.length ≤ cd) (hG : Gl w) :
    Calls Tryz.prog 9 #[.int .i64 size, .slice Ad data.length cd, .int .u64 q] w fun e w' => e = .returned (.bool true) ∧ Below w.heap.size w w' := by
  have HRp := Aside0.mk hr
  have HCp := Aside0.mk hc
  have HG := Aside0.mk hG
  have HQ0 := Aside0.mk hq0
  have HKP := Aside0.mk (fun w hr hc hG => kept_any Ad cd data size (-1) (-1) ⟨#[108, 97, 115, 116]⟩ w hr hc hG)
  clear hr hc hG hq0
  obtain ⟨R, want, why, hK⟩ : ∃ R want why, keptF size data ⟨#[108, 97, 115, 116]⟩ (-1) (-1) = (R, want, why) := ⟨_, _, _, rfl⟩
  rw [hK] at HKP
  dsimp only at HKP
  have HK := Aside0.mk hK
  clear hK
  have H := Aside0.mk (Sep.start w)
  go_enter Tryz.func9, Tryz.ntmps9
  go_wp2_with fail
  refine ((lives_any _ (HG.out.below H.out.below)).mono ?_)
  rintro e wd1 ⟨rfl, hb_⟩
  have n_ : Aside0 (Sep w wd1 []) := ⟨H.out.step hb_⟩
  clear H
  have H := n_
  clear n_
  clear hb_
  go_wp2_with fail
  refine ((HKP.out _ (H.out.came HRp.out) HCp.out (HG.out.below H.out.below)).mono ?_)
  rintro e wd2 ⟨A1, c1, A2, c2, rfl, HJ⟩
  have n_ : Aside0 (Sep w wd2 [row k67 67 (.slice A1 (R.l).length c1) R.l, row k62 62 (.slice A2 (want).length c2) want]) := ⟨sep_join H.out HJ.out⟩
  clear H
  have H := n_
  clear n_
  clear HJ
  simp only [lgc]
  clear HKP
  by_cases hz : why = 0
  ·
    subst hz
    obtain ⟨ds, hwant, hW, hD, hN⟩ := drops_plain HK.out
    have HW := Aside0.mk hW
    have HD := Aside0.mk hD
    have HN := Aside0.mk hN
    have HWT := Aside0.mk hwant
    have HNX : Aside0 (R.nx = 1 + (ds.length : Int) ∧ ds.length ≤ 1048576) := ⟨by have h1 := hW.nx; have h2 := hW.few; omega⟩
    have HDR := Aside0.mk (fun A c w hr hc hG => drop_any A c R q HQ0.out w hr hc hG (by have := HNX.out; omega) (by have := HNX.out; omega))
    clear hwant hW hD hN
    go_wp2_with (first
 | ((with_reducible refine gate_dst (N := 7) rfl ?_);
    refine new_box rfl H (cs := [.slice none 0 0, .bool false, .int .i64 0, .int .i64 0, .int .i64 0, .int .u64 0, .int .u64 0, .bool false]) (t := 30) ?hr ?_;
    (case hr => first | (go_simp; done) | (go_simp; rfl));
    intro gb wd3 n_;
    simp only [Act.put, List.setIfInBounds_toArray, List.set_cons_zero, List.set_cons_succ];
    clear H;
    have H := n_;
    clear n_;
    have c_b := H.out.cell (g := gb) mem0;
    have z_b := H.out.frozen (g := gb) mem0)
 | ((with_reducible refine gate_store (t := 30) (p := 7) rfl ?_);
    refine put_box (rs1 := [box gb [.slice A1 R.l.length c1, .bool R.dn, .int .i64 R.fu, .int .i64 R.fa, .int .i64 R.size, .int .u64 R.fr, .int .u64 R.nx, .bool R.br] 30, row k67 67 (.slice A1 (R.l).length c1) R.l, row k62 62 (.slice A2 (want).length c2) want]) rfl (t := 30) (p := 7) rfl rfl ?hr (H1 := (Sep.set0 (Sep.set0 (Sep.set0 (Sep.set0 (Sep.set0 (Sep.set0 (Sep.set0 (Sep.set0 H.out 0 (.slice A1 R.l.length c1) rfl) 1 (.bool R.dn) rfl) 2 (.int .i64 R.fu) rfl) 3 (.int .i64 R.fa) rfl) 4 (.int .i64 R.size) rfl) 5 (.int .u64 R.fr) rfl) 6 (.int .u64 R.nx) rfl) 7 (.bool R.br) rfl)) ?_;
    (case hr => first | (go_simp; done) | (go_simp; rfl));
    intro wd4 n_;
    clear H c_b z_b;
    have H := n_;
    clear n_;
    have c_b := H.out.cell (g := gb) mem0;
    have z_b := H.out.frozen (g := gb) mem0)
 | fail)
    by_cases hq : q ≤ R.nx
    ·
      obtain ⟨R2, d0, d1, hR2, hW2, hds, hg0, hsz⟩ := HD.out q hq
      rw [hR2] at HDR
      dsimp only at HDR
      obtain ⟨got, hgot⟩ : ∃ got, got = recR d1 (1 + d0.length) := ⟨_, rfl⟩
      have HRC := Aside0.mk (fun A c w hr hc hG => records_any A c R2 w hr hc hG)
      rw [hW2.records, ← hgot] at HRC
      dsimp only at HRC
      have HO := Aside0.mk (fun A c w hr hc hG => open_any A c R2.l R2.dn R2.fu R2.fa size w hr hc hG)
      rw [← hsz, hW2.opens, hsz, ← hgot] at HO
      dsimp only at HO
      have HGL : Aside0 (got.length = d1.length) := ⟨by rw [hgot, recR_length]⟩
      have HWA : Aside0 (want = recR d0 1 ++ got) := ⟨by rw [HWT.out, hds, recR_append, hgot]⟩
      have HD0 : Aside0 ((recR d0 1).length = d0.length) := ⟨recR_length _ _⟩
      have HLE : Aside0 (want.length = d0.length + got.length ∧ want.length ≤ 1048576) := ⟨by
        constructor
        · rw [HWA.out, List.length_append, HD0.out]
        · rw [HWT.out, recR_length]; exact HNX.out.2⟩
      have HSR := Aside0.mk (samerec_refl got (by have := HLE.out; omega))
      have HSM := Aside0.mk (same10_refl R2 (right_len hW2.right))
      have HN2 : Aside0 (R2.nx = R.nx) := ⟨by rw [hW2.nx, HW.out.nx]⟩
      have HG0 := Aside0.mk hg0
      clear hR2 hW2 hds hg0 hsz hgot hq HD HN
      refine ((HDR.out _ _ _ (H.out.reads mem1).2.2 (H.out.reads mem1).2.1 (HG.out.below H.out.below)).mono ?_)
      rintro e wd5 ⟨A3, c3, rfl, HJ⟩
      have n_ : Aside0 (Sep w wd5 [row k67 67 (.slice A3 (R2.l).length c3) R2.l, box gb [.slice A1 R.l.length c1, .bool R.dn, .int .i64 R.fu, .int .i64 R.fa, .int .i64 R.size, .int .u64 R.fr, .int .u64 R.nx, .bool R.br] 30, row k67 67 (.slice A1 (R.l).length c1) R.l, row k62 62 (.slice A2 (want).length c2) want]) := ⟨sep_join H.out HJ.out⟩
      clear H c_b z_b
      have H := n_
      clear n_
      have c_b := H.out.cell (g := gb) mem1
      have z_b := H.out.frozen (g := gb) mem1
      clear HJ
      simp only [lgc]
      clear HDR
      go_wp2_with (first
 | ((with_reducible refine gate_dst (N := 10) rfl ?_);
    refine new_box rfl H (cs := [.slice none 0 0, .bool false, .int .i64 0, .int .i64 0, .int .i64 0, .int .u64 0, .int .u64 0, .bool false]) (t := 30) ?hr ?_;
    (case hr => first | (go_simp; done) | (go_simp; rfl));
    intro gm wd6 n_;
    simp only [Act.put, List.setIfInBounds_toArray, List.set_cons_zero, List.set_cons_succ];
    clear H c_b z_b;
    have H := n_;
    clear n_;
    have c_m := H.out.cell (g := gm) mem0;
    have z_m := H.out.frozen (g := gm) mem0;
    have c_b := H.out.cell (g := gb) mem2)
 | ((with_reducible refine gate_store (t := 30) (p := 10) rfl ?_);
    refine put_box (rs1 := [box gm [.slice A3 R2.l.length c3, .bool R2.dn, .int .i64 R2.fu, .int .i64 R2.fa, .int .i64 R2.size, .int .u64 R2.fr, .int .u64 R2.nx, .bool R2.br] 30, row k67 67 (.slice A3 (R2.l).length c3) R2.l, box gb [.slice A1 R.l.length c1, .bool R.dn, .int .i64 R.fu, .int .i64 R.fa, .int .i64 R.size, .int .u64 R.fr, .int .u64 R.nx, .bool R.br] 30, row k67 67 (.slice A1 (R.l).length c1) R.l, row k62 62 (.slice A2 (want).length c2) want]) rfl (t := 30) (p := 10) rfl rfl ?hr (H1 := (Sep.set0 (Sep.set0 (Sep.set0 (Sep.set0 (Sep.set0 (Sep.set0 (Sep.set0 (Sep.set0 H.out 0 (.slice A3 R2.l.length c3) rfl) 1 (.bool R2.dn) rfl) 2 (.int .i64 R2.fu) rfl) 3 (.int .i64 R2.fa) rfl) 4 (.int .i64 R2.size) rfl) 5 (.int .u64 R2.fr) rfl) 6 (.int .u64 R2.nx) rfl) 7 (.bool R2.br) rfl)) ?_;
    (case hr => first | (go_simp; done) | (go_simp; rfl));
    intro wd7 n_;
    clear H c_m z_m c_b;
    have H := n_;
    clear n_;
    have c_m := H.out.cell (g := gm) mem0;
    have z_m := H.out.frozen (g := gm) mem0;
    have c_b := H.out.cell (g := gb) mem2)
 | fail)
      refine ((HRC.out _ _ _ (H.out.reads mem1).2.2 (H.out.reads mem1).2.1 (HG.out.below H.out.below)).mono ?_)
      rintro e wd8 ⟨A4, c4, rfl, HJ⟩
      have n_ : Aside0 (Sep w wd8 [row k62 62 (.slice A4 (got).length c4) got, box gm [.slice A3 R2.l.length c3, .bool R2.dn, .int .i64 R2.fu, .int .i64 R2.fa, .int .i64 R2.size, .int .u64 R2.fr, .int .u64 R2.nx, .bool R2.br] 30, row k67 67 (.slice A3 (R2.l).length c3) R2.l, box gb [.slice A1 R.l.length c1, .bool R.dn, .int .i64 R.fu, .int .i64 R.fa, .int .i64 R.size, .int .u64 R.fr, .int .u64 R.nx, .bool R.br] 30, row k67 67 (.slice A1 (R.l).length c1) R.l, row k62 62 (.slice A2 (want).length c2) want]) := ⟨sep_join H.out HJ.out⟩
      clear H c_m z_m c_b
      have H := n_
      clear n_
      have c_m := H.out.cell (g := gm) mem1
      have z_m := H.out.frozen (g := gm) mem1
      have c_b := H.out.cell (g := gb) mem3
      clear HJ
      clear HRC
      go_wp2_with fail
      refine ((HO.out _ _ _ (H.out.reads mem2).2.2 (H.out.reads mem2).2.1 (HG.out.below H.out.below)).mono ?_)
      rintro e wd9 ⟨A5, c5, A6, c6, rfl, HJ⟩
      have n_ : Aside0 (Sep w wd9 [row k67 67 (.slice A5 (R2.l).length c5) R2.l, row k62 62 (.slice A6 (got).length c6) got, row k62 62 (.slice A4 (got).length c4) got, box gm [.slice A3 R2.l.length c3, .bool R2.dn, .int .i64 R2.fu, .int .i64 R2.fa, .int .i64 R2.size, .int .u64 R2.fr, .int .u64 R2.nx, .bool R2.br] 30, row k67 67 (.slice A3 (R2.l).length c3) R2.l, box gb [.slice A1 R.l.length c1, .bool R.dn, .int .i64 R.fu, .int .i64 R.fa, .int .i64 R.size, .int .u64 R.fr, .int .u64 R.nx, .bool R.br] 30, row k67 67 (.slice A1 (R.l).length c1) R.l, row k62 62 (.slice A2 (want).length c2) want]) := ⟨sep_join H.out HJ.out⟩
      clear H c_m z_m c_b
      have H := n_
      clear n_
      have c_m := H.out.cell (g := gm) mem3
      have z_m := H.out.frozen (g := gm) mem3
      have c_b := H.out.cell (g := gb) mem5
      clear HJ
      simp only [lgc]
      clear HO
      have hlt : ¬ (want.length : Int) < (got.length : Int) := by have := HLE.out; omega
      go_wp2_with (first
 | ((with_reducible refine gate_dst (N := 13) rfl ?_);
    refine new_box rfl H (cs := [.slice none 0 0, .bool false, .int .i64 0, .int .i64 0, .int .i64 0, .int .u64 0, .int .u64 0, .bool false]) (t := 30) ?hr ?_;
    (case hr => first | (go_simp; done) | (go_simp; rfl));
    intro gx wd10 n_;
    simp only [Act.put, List.setIfInBounds_toArray, List.set_cons_zero, List.set_cons_succ];
    clear H c_m z_m c_b;
    have H := n_;
    clear n_;
    have c_x := H.out.cell (g := gx) mem0;
    have z_x := H.out.frozen (g := gx) mem0;
    have c_m := H.out.cell (g := gm) mem4;
    have c_b := H.out.cell (g := gb) mem6)
 | ((with_reducible refine gate_store (t := 30) (p := 13) rfl ?_);
    refine put_box (rs1 := [box gx [.slice A5 R2.l.length c5, .bool R2.dn, .int .i64 R2.fu, .int .i64 R2.fa, .int .i64 R2.size, .int .u64 R2.fr, .int .u64 R2.nx, .bool R2.br] 30, row k67 67 (.slice A5 (R2.l).length c5) R2.l, row k62 62 (.slice A6 (got).length c6) got, row k62 62 (.slice A4 (got).length c4) got, box gm [.slice A3 R2.l.length c3, .bool R2.dn, .int .i64 R2.fu, .int .i64 R2.fa, .int .i64 R2.size, .int .u64 R2.fr, .int .u64 R2.nx, .bool R2.br] 30, row k67 67 (.slice A3 (R2.l).length c3) R2.l, box gb [.slice A1 R.l.length c1, .bool R.dn, .int .i64 R.fu, .int .i64 R.fa, .int .i64 R.size, .int .u64 R.fr, .int .u64 R.nx, .bool R.br] 30, row k67 67 (.slice A1 (R.l).length c1) R.l, row k62 62 (.slice A2 (want).length c2) want]) rfl (t := 30) (p := 13) rfl rfl ?hr (H1 := (Sep.set0 (Sep.set0 (Sep.set0 (Sep.set0 (Sep.set0 (Sep.set0 (Sep.set0 (Sep.set0 H.out 0 (.slice A5 R2.l.length c5) rfl) 1 (.bool R2.dn) rfl) 2 (.int .i64 R2.fu) rfl) 3 (.int .i64 R2.fa) rfl) 4 (.int .i64 R2.size) rfl) 5 (.int .u64 R2.fr) rfl) 6 (.int .u64 R2.nx) rfl) 7 (.bool R2.br) rfl)) ?_;
    (case hr => first | (go_simp; done) | (go_simp; rfl));
    intro wd11 n_;
    clear H c_x z_x c_m c_b;
    have H := n_;
    clear n_;
    have c_x := H.out.cell (g := gx) mem0;
    have z_x := H.out.frozen (g := gx) mem0;
    have c_m := H.out.cell (g := gm) mem4;
    have c_b := H.out.cell (g := gb) mem6)
 | fail)
      refine ((penstockref10_SameRecords.calls (got.length + 1) A4 c4 got A6 c6 got true _ (H.out.reads mem3).2.2 (H.out.reads mem3).2.1 (H.out.reads mem2).2.2 (H.out.reads mem2).2.1 HSR.out).mono ?_)
      rintro e wd12 ⟨rfl, hb_⟩
      have n_ : Aside0 (Sep w wd12 [box gx [.slice A5 R2.l.length c5, .bool R2.dn, .int .i64 R2.fu, .int .i64 R2.fa, .int .i64 R2.size, .int .u64 R2.fr, .int .u64 R2.nx, .bool R2.br] 30, row k67 67 (.slice A5 (R2.l).length c5) R2.l, row k62 62 (.slice A6 (got).length c6) got, row k62 62 (.slice A4 (got).length c4) got, box gm [.slice A3 R2.l.length c3, .bool R2.dn, .int .i64 R2.fu, .int .i64 R2.fa, .int .i64 R2.size, .int .u64 R2.fr, .int .u64 R2.nx, .bool R2.br] 30, row k67 67 (.slice A3 (R2.l).length c3) R2.l, box gb [.slice A1 R.l.length c1, .bool R.dn, .int .i64 R.fu, .int .i64 R.fa, .int .i64 R.size, .int .u64 R.fr, .int .u64 R.nx, .bool R.br] 30, row k67 67 (.slice A1 (R.l).length c1) R.l, row k62 62 (.slice A2 (want).length c2) want]) := ⟨H.out.step (Drawn0.below hb_)⟩
      clear H c_x z_x c_m c_b
      have H := n_
      clear n_
      have c_x := H.out.cell (g := gx) mem0
      have z_x := H.out.frozen (g := gx) mem0
      have c_m := H.out.cell (g := gm) mem4
      have c_b := H.out.cell (g := gb) mem6
      clear hb_
      go_wp2_with fail
      refine ((penstockref10_Same.calls 70 A3 c3 R2.l R2.dn R2.fu R2.fa R2.size R2.fr R2.nx R2.br A5 c5 R2.l R2.dn R2.fu R2.fa R2.size R2.fr R2.nx R2.br true _ (H.out.reads mem5).2.2 (H.out.reads mem5).2.1 (H.out.reads mem1).2.2 (H.out.reads mem1).2.1 HSM.out).mono ?_)
      rintro e wd13 ⟨rfl, hb_⟩
      have n_ : Aside0 (Sep w wd13 [box gx [.slice A5 R2.l.length c5, .bool R2.dn, .int .i64 R2.fu, .int .i64 R2.fa, .int .i64 R2.size, .int .u64 R2.fr, .int .u64 R2.nx, .bool R2.br] 30, row k67 67 (.slice A5 (R2.l).length c5) R2.l, row k62 62 (.slice A6 (got).length c6) got, row k62 62 (.slice A4 (got).length c4) got, box gm [.slice A3 R2.l.length c3, .bool R2.dn, .int .i64 R2.fu, .int .i64 R2.fa, .int .i64 R2.size, .int .u64 R2.fr, .int .u64 R2.nx, .bool R2.br] 30, row k67 67 (.slice A3 (R2.l).length c3) R2.l, box gb [.slice A1 R.l.length c1, .bool R.dn, .int .i64 R.fu, .int .i64 R.fa, .int .i64 R.size, .int .u64 R.fr, .int .u64 R.nx, .bool R.br] 30, row k67 67 (.slice A1 (R.l).length c1) R.l, row k62 62 (.slice A2 (want).length c2) want]) := ⟨H.out.step hb_⟩
      clear H c_x z_x c_m c_b
      have H := n_
      clear n_
      have c_x := H.out.cell (g := gx) mem0
      have z_x := H.out.frozen (g := gx) mem0
      have c_m := H.out.cell (g := gm) mem4
      have c_b := H.out.cell (g := gb) mem6
      clear hb_
      go_upto_if 86 with fail
      go_cut [] (fun wx => Aside0 (Sep w wx [box gx [.slice A5 R2.l.length c5, .bool R2.dn, .int .i64 R2.fu, .int .i64 R2.fa, .int .i64 R2.size, .int .u64 R2.fr, .int .u64 R2.nx, .bool R2.br] 30, row k67 67 (.slice A5 (R2.l).length c5) R2.l, row k62 62 (.slice A6 (got).length c6) got, row k62 62 (.slice A4 (got).length c4) got, box gm [.slice A3 R2.l.length c3, .bool R2.dn, .int .i64 R2.fu, .int .i64 R2.fa, .int .i64 R2.size, .int .u64 R2.fr, .int .u64 R2.nx, .bool R2.br] 30, row k67 67 (.slice A3 (R2.l).length c3) R2.l, box gb [.slice A1 R.l.length c1, .bool R.dn, .int .i64 R.fu, .int .i64 R.fa, .int .i64 R.size, .int .u64 R.fr, .int .u64 R.nx, .bool R.br] 30, row k67 67 (.slice A1 (R.l).length c1) R.l, row k62 62 (.slice A2 (want).length c2) want]))
      case first =>
        go_wp2_with fail
        go_meet
        exact H
      case rest =>
        have n_ := hcut
        clear hcut
        clear H c_x z_x c_m c_b
        have H := n_
        clear n_
        have c_x := H.out.cell (g := gx) mem0
        have z_x := H.out.frozen (g := gx) mem0
        have c_m := H.out.cell (g := gm) mem4
        have c_b := H.out.cell (g := gb) mem6
        rename_i hK_
        refine hK_ _ _ ?_
        clear hK_
        have hw1 : wrap64 ((want.length : Int) - (got.length : Int)) = (d0.length : Int) := by
          have := HLE.out
          unfold wrap64
          omega
        have hw2 : IntKind.u64.wrap (d0.length : Int) = (d0.length : Int) := by
          have := HLE.out
          rw [IntKind.wrap_u64]
          omega
        have hl0 : (0 : Int) ≤ (d0.length : Int) := by omega
        have hl1 : (d0.length : Int) ≤ (want.length : Int) := by have := HLE.out; omega
        have hn2 : (R2.nx == R.nx) = true := by rw [HN2.out]; simp
        have hwc := (H.out.reads (A := A2) mem8).2.1
        have HWC := Aside0.mk hwc
        clear hwc
        go_upto_region 14 with fail
        try rw [hw1]
        by_cases hcap : c2 = d0.length
        ·
          subst hcap
          go_wp2_with fail
          have hgl : want.length - d0.length = got.length := by have := HLE.out; omega
          try rw [hgl]
          have hC := C62_suf (c := d0.length) (a := recR d0 1) (b := got) (by have h := (H.out.reads (A := A2) mem8).2.2; rw [HWA.out] at h; exact h) (by have h := HWC.out; rw [HWA.out] at h; exact h)
          rw [HD0.out, if_pos rfl] at hC
          have HC := Aside0.mk hC
          clear hC hgl
          refine ((penstockref10_SameRecords.calls (got.length + 1) A4 c4 got A2 (0) got true _ (H.out.reads mem3).2.2 (H.out.reads mem3).2.1 HC.out (by have h := HWC.out; have h2 := HLE.out; omega) HSR.out).mono ?_)
          rintro e wd14 ⟨rfl, hb_⟩
          have n_ : Aside0 (Sep w wd14 [box gx [.slice A5 R2.l.length c5, .bool R2.dn, .int .i64 R2.fu, .int .i64 R2.fa, .int .i64 R2.size, .int .u64 R2.fr, .int .u64 R2.nx, .bool R2.br] 30, row k67 67 (.slice A5 (R2.l).length c5) R2.l, row k62 62 (.slice A6 (got).length c6) got, row k62 62 (.slice A4 (got).length c4) got, box gm [.slice A3 R2.l.length c3, .bool R2.dn, .int .i64 R2.fu, .int .i64 R2.fa, .int .i64 R2.size, .int .u64 R2.fr, .int .u64 R2.nx, .bool R2.br] 30, row k67 67 (.slice A3 (R2.l).length c3) R2.l, box gb [.slice A1 R.l.length c1, .bool R.dn, .int .i64 R.fu, .int .i64 R.fa, .int .i64 R.size, .int .u64 R.fr, .int .u64 R.nx, .bool R.br] 30, row k67 67 (.slice A1 (R.l).length c1) R.l, row k62 62 (.slice A2 (want).length d0.length) want]) := ⟨H.out.step (Drawn0.below hb_)⟩
          clear H c_x z_x c_m c_b
          have H := n_
          clear n_
          have c_x := H.out.cell (g := gx) mem0
          have z_x := H.out.frozen (g := gx) mem0
          have c_m := H.out.cell (g := gm) mem4
          have c_b := H.out.cell (g := gb) mem6
          clear hb_
          by_cases hd0 : (d0.length : Int) = 0
          ·
            have hb0 : ((d0.length : Int) == 0) = true := by rw [hd0]; rfl
            go_wp2_with fail
            go_ret
            exact ⟨rfl, H.out.below⟩
          ·
            have hb0 : ((d0.length : Int) == 0) = false := by simpa using hd0
            have hb1 : (d0.length : Int) < q := by
              rcases HG0.out with h | h
              · rw [h] at hd0; exact absurd rfl hd0
              · exact h
            go_wp2_with fail
            go_ret
            exact ⟨rfl, H.out.below⟩
        ·
          go_wp2_with fail
          have hgl : want.length - d0.length = got.length := by have := HLE.out; omega
          try rw [hgl]
          have hC := C62_suf (c := c2) (a := recR d0 1) (b := got) (by have h := (H.out.reads (A := A2) mem8).2.2; rw [HWA.out] at h; exact h) (by have h := HWC.out; rw [HWA.out] at h; exact h)
          rw [HD0.out, if_neg hcap] at hC
          have HC := Aside0.mk hC
          clear hC hgl
          refine ((penstockref10_SameRecords.calls (got.length + 1) A4 c4 got (A2.map (·.add (d0.length * 2))) (c2 - d0.length) got true _ (H.out.reads mem3).2.2 (H.out.reads mem3).2.1 HC.out (by have h := HWC.out; have h2 := HLE.out; omega) HSR.out).mono ?_)
          rintro e wd15 ⟨rfl, hb_⟩
          have n_ : Aside0 (Sep w wd15 [box gx [.slice A5 R2.l.length c5, .bool R2.dn, .int .i64 R2.fu, .int .i64 R2.fa, .int .i64 R2.size, .int .u64 R2.fr, .int .u64 R2.nx, .bool R2.br] 30, row k67 67 (.slice A5 (R2.l).length c5) R2.l, row k62 62 (.slice A6 (got).length c6) got, row k62 62 (.slice A4 (got).length c4) got, box gm [.slice A3 R2.l.length c3, .bool R2.dn, .int .i64 R2.fu, .int .i64 R2.fa, .int .i64 R2.size, .int .u64 R2.fr, .int .u64 R2.nx, .bool R2.br] 30, row k67 67 (.slice A3 (R2.l).length c3) R2.l, box gb [.slice A1 R.l.length c1, .bool R.dn, .int .i64 R.fu, .int .i64 R.fa, .int .i64 R.size, .int .u64 R.fr, .int .u64 R.nx, .bool R.br] 30, row k67 67 (.slice A1 (R.l).length c1) R.l, row k62 62 (.slice A2 (want).length c2) want]) := ⟨H.out.step (Drawn0.below hb_)⟩
          clear H c_x z_x c_m c_b
          have H := n_
          clear n_
          have c_x := H.out.cell (g := gx) mem0
          have z_x := H.out.frozen (g := gx) mem0
          have c_m := H.out.cell (g := gm) mem4
          have c_b := H.out.cell (g := gb) mem6
          clear hb_
          by_cases hd0 : (d0.length : Int) = 0
          ·
            have hb0 : ((d0.length : Int) == 0) = true := by rw [hd0]; rfl
            go_wp2_with fail
            go_ret
            exact ⟨rfl, H.out.below⟩
          ·
            have hb0 : ((d0.length : Int) == 0) = false := by simpa using hd0
            have hb1 : (d0.length : Int) < q := by
              rcases HG0.out with h | h
              · rw [h] at hd0; exact absurd rfl hd0
              · exact h
            go_wp2_with fail
            go_ret
            exact ⟨rfl, H.out.below⟩
    ·
      rw [HN.out q (by omega)] at HDR
      dsimp only at HDR
      have hgt : R.nx < q := by omega
      have HSM := Aside0.mk (same10_refl R (right_len HW.out.right))
      clear hq HD HN
      refine ((HDR.out _ _ _ (H.out.reads mem1).2.2 (H.out.reads mem1).2.1 (HG.out.below H.out.below)).mono ?_)
      rintro e wd16 ⟨A3, c3, rfl, HJ⟩
      have n_ : Aside0 (Sep w wd16 [row k67 67 (.slice A3 (R.l).length c3) R.l, box gb [.slice A1 R.l.length c1, .bool R.dn, .int .i64 R.fu, .int .i64 R.fa, .int .i64 R.size, .int .u64 R.fr, .int .u64 R.nx, .bool R.br] 30, row k67 67 (.slice A1 (R.l).length c1) R.l, row k62 62 (.slice A2 (want).length c2) want]) := ⟨sep_join H.out HJ.out⟩
      clear H c_b z_b
      have H := n_
      clear n_
      have c_b := H.out.cell (g := gb) mem1
      have z_b := H.out.frozen (g := gb) mem1
      clear HJ
      simp only [lgc]
      clear HDR
      go_wp2_with (first
 | ((with_reducible refine gate_dst (N := 10) rfl ?_);
    refine new_box rfl H (cs := [.slice none 0 0, .bool false, .int .i64 0, .int .i64 0, .int .i64 0, .int .u64 0, .int .u64 0, .bool false]) (t := 30) ?hr ?_;
    (case hr => first | (go_simp; done) | (go_simp; rfl));
    intro gm wd17 n_;
    simp only [Act.put, List.setIfInBounds_toArray, List.set_cons_zero, List.set_cons_succ];
    clear H c_b z_b;
    have H := n_;
    clear n_;
    have c_m := H.out.cell (g := gm) mem0;
    have z_m := H.out.frozen (g := gm) mem0;
    have c_b := H.out.cell (g := gb) mem2)
 | ((with_reducible refine gate_store (t := 30) (p := 10) rfl ?_);
    refine put_box (rs1 := [box gm [.slice A3 R.l.length c3, .bool R.dn, .int .i64 R.fu, .int .i64 R.fa, .int .i64 R.size, .int .u64 R.fr, .int .u64 R.nx, .bool R.br] 30, row k67 67 (.slice A3 (R.l).length c3) R.l, box gb [.slice A1 R.l.length c1, .bool R.dn, .int .i64 R.fu, .int .i64 R.fa, .int .i64 R.size, .int .u64 R.fr, .int .u64 R.nx, .bool R.br] 30, row k67 67 (.slice A1 (R.l).length c1) R.l, row k62 62 (.slice A2 (want).length c2) want]) rfl (t := 30) (p := 10) rfl rfl ?hr (H1 := (Sep.set0 (Sep.set0 (Sep.set0 (Sep.set0 (Sep.set0 (Sep.set0 (Sep.set0 (Sep.set0 H.out 0 (.slice A3 R.l.length c3) rfl) 1 (.bool R.dn) rfl) 2 (.int .i64 R.fu) rfl) 3 (.int .i64 R.fa) rfl) 4 (.int .i64 R.size) rfl) 5 (.int .u64 R.fr) rfl) 6 (.int .u64 R.nx) rfl) 7 (.bool R.br) rfl)) ?_;
    (case hr => first | (go_simp; done) | (go_simp; rfl));
    intro wd18 n_;
    clear H c_m z_m c_b;
    have H := n_;
    clear n_;
    have c_m := H.out.cell (g := gm) mem0;
    have z_m := H.out.frozen (g := gm) mem0;
    have c_b := H.out.cell (g := gb) mem2)
 | fail)
      refine ((penstockref10_Same.calls 70 A1 c1 R.l R.dn R.fu R.fa R.size R.fr R.nx R.br A3 c3 R.l R.dn R.fu R.fa R.size R.fr R.nx R.br true _ (H.out.reads mem3).2.2 (H.out.reads mem3).2.1 (H.out.reads mem1).2.2 (H.out.reads mem1).2.1 HSM.out).mono ?_)
      rintro e wd19 ⟨rfl, hb_⟩
      have n_ : Aside0 (Sep w wd19 [box gm [.slice A3 R.l.length c3, .bool R.dn, .int .i64 R.fu, .int .i64 R.fa, .int .i64 R.size, .int .u64 R.fr, .int .u64 R.nx, .bool R.br] 30, row k67 67 (.slice A3 (R.l).length c3) R.l, box gb [.slice A1 R.l.length c1, .bool R.dn, .int .i64 R.fu, .int .i64 R.fa, .int .i64 R.size, .int .u64 R.fr, .int .u64 R.nx, .bool R.br] 30, row k67 67 (.slice A1 (R.l).length c1) R.l, row k62 62 (.slice A2 (want).length c2) want]) := ⟨H.out.step hb_⟩
      clear H c_m z_m c_b
      have H := n_
      clear n_
      have c_m := H.out.cell (g := gm) mem0
      have z_m := H.out.frozen (g := gm) mem0
      have c_b := H.out.cell (g := gb) mem2
      clear hb_
      go_wp2_with fail
      go_ret
      exact ⟨rfl, H.out.below⟩
  ·
    go_wp2_with (first
 | ((with_reducible refine gate_dst (N := 7) rfl ?_);
    refine new_box rfl H (cs := [.slice none 0 0, .bool false, .int .i64 0, .int .i64 0, .int .i64 0, .int .u64 0, .int .u64 0, .bool false]) (t := 30) ?hr ?_;
    (case hr => first | (go_simp; done) | (go_simp; rfl));
    intro gb wd20 n_;
    simp only [Act.put, List.setIfInBounds_toArray, List.set_cons_zero, List.set_cons_succ];
    clear H;
    have H := n_;
    clear n_;
    have c_b := H.out.cell (g := gb) mem0;
    have z_b := H.out.frozen (g := gb) mem0)
 | ((with_reducible refine gate_store (t := 30) (p := 7) rfl ?_);
    refine put_box (rs1 := [box gb [.slice A1 R.l.length c1, .bool R.dn, .int .i64 R.fu, .int .i64 R.fa, .int .i64 R.size, .int .u64 R.fr, .int .u64 R.nx, .bool R.br] 30, row k67 67 (.slice A1 (R.l).length c1) R.l, row k62 62 (.slice A2 (want).length c2) want]) rfl (t := 30) (p := 7) rfl rfl ?hr (H1 := (Sep.set0 (Sep.set0 (Sep.set0 (Sep.set0 (Sep.set0 (Sep.set0 (Sep.set0 (Sep.set0 H.out 0 (.slice A1 R.l.length c1) rfl) 1 (.bool R.dn) rfl) 2 (.int .i64 R.fu) rfl) 3 (.int .i64 R.fa) rfl) 4 (.int .i64 R.size) rfl) 5 (.int .u64 R.fr) rfl) 6 (.int .u64 R.nx) rfl) 7 (.bool R.br) rfl)) ?_;
    (case hr => first | (go_simp; done) | (go_simp; rfl));
    intro wd21 n_;
    clear H c_b z_b;
    have H := n_;
    clear n_;
    have c_b := H.out.cell (g := gb) mem0;
    have z_b := H.out.frozen (g := gb) mem0)
 | fail)
    go_ret
    exact ⟨rfl, H.out.below⟩
end Go.Proofs.YtanonhipicoigaaGreatDoor.U
