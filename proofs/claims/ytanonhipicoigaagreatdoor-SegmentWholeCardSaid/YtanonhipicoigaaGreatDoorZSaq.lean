import Derived.BigRegion
import Derived.LoopN
import Derived.Deep.DeepCutAuto
import Derived.Test.YtanonhipicoigaaGreatDoorZSah
import Derived.Test.YtanonhipicoigaaGreatDoorZSap
import Derived.Test.YtanonhipicoigaaGreatDoorZSag
namespace Go.Proofs.YtanonhipicoigaaGreatDoor.U
open Go.RowKit Go.Proofs.YtanonhipicoigaaGreatDoorW.PrintWords Go.Proofs.YtanonhipicoigaaGreatDoorW.PrintLast Go.Proofs.YtanonhipicoigaaGreatDoorW.PrintMore Go.Proofs.YtanonhipicoigaaGreatDoor.Sp Go.Proofs.YtanonhipicoigaaGreatDoor.SegP
set_option linter.unusedVariables false
set_option linter.unusedSimpArgs false
/-- A new file is not there yet. -/
theorem new_not_at {L : Lg} {ds : List SegP.Bytes} {n m k : Nat} (h : WF L ds n m) (hf : isFull L k) (hk : k ≤ 65552) : isAt L.l (nameB L.nx.toNat) (bsOf L.l (nameB L.nx.toNat)) = false := by
  have hnx : L.nx.toNat = m := by rw [h.nx]; exact Int.toNat_natCast m
  rw [hnx]
  cases hh : isAt L.l (nameB m) (bsOf L.l (nameB m)) with
  | false => rfl
  | true =>
    exfalso
    obtain ⟨x, hx, hxe⟩ := (isAt_iff _ _ _).1 hh
    have hxn : x.f0 = nameB m := byt_inj (by
      rw [ByteArray.toList_eq, ByteArray.toList_eq] at hxe
      exact hxe)
    have hmem : ((x, m) : Pl) ∈ placesF L.l := places_mem.2 ⟨List.mem_of_getElem? hx, by show numOf x.f0 = some m; rw [hxn]; exact numOf_nameB h.top⟩
    obtain ⟨a, e1, e2⟩ := last_of h.right h.ch hmem rfl
    have hlp : lastPl L.l = some (x, m) := by
      rw [lastPl, e1, List.getLast?_append]
      rfl
    unfold isFull at hf
    rw [hlp] at hf
    simp only at hf e2
    have := h.lo
    omega
theorem stepC_full {L : Lg} {ds : List SegP.Bytes} {n m k : Nat} (h : WF L ds n m) (hu : L.fu = -1) (ha : L.fa = -1) (hk : k ≤ 65552) (hl : 64 ≤ L.l.length) (hf : isFull L k) : (stepC L k).2 = 8 := by
  have hat := new_not_at h hf hk
  have hrf : rfC (nameB L.nx.toNat) L.l.length (bsOf L.l (nameB L.nx.toNat)) (isAt L.l (nameB L.nx.toNat) (bsOf L.l (nameB L.nx.toNat))) = 8 := by
    unfold rfC
    rw [hat, if_neg, if_neg (by simp), if_pos (by omega)]
    rw [nameB_size, nameB_list]
    intro hh
    rcases hh with hh | hh
    · have := congrArg List.length hh
      rw [hexN_length] at this
      cases this
    · omega
  unfold stepC
  rw [if_pos hf, hu, ha, h.dn, createF, changed_whole h.right, if_neg (by rw [hrf]; decide)]
  exact hrf
/-- On a disk that never fails: done, or the disk is full. -/
theorem append_or {L : Lg} {ds : List SegP.Bytes} {n m : Nat} {d : ByteArray} (h : WF L ds n m) (hu : L.fu = -1) (ha : L.fa = -1) (hd : d.size ≤ 65536) (hm : m < most) : (appendL L d).2 = 0 ∨ ((appendL L d).2 = 8 ∧ 64 ≤ L.l.length) := by
  by_cases hl : L.l.length < 64
  · obtain ⟨R, hR, _⟩ := append_done h hu ha hd hm hl
    exact .inl (by rw [hR])
  · have hfs : (frameF L.nx d).size = 16 + d.size := by rw [h.nx]; exact frameF_size m d
    have hap : appendL L d = if (stepC L (frameF L.nx d).size).2 = 0 then putDo (stepC L (frameF L.nx d).size).1 (frameF L.nx d) else stepC L (frameF L.nx d).size := by
      rw [appendL, if_pos h.okL, appendDo, h.br, if_neg (by simp), if_neg (by omega), if_neg (by rw [h.nx]; unfold most at hm; omega)]
    by_cases hf : isFull L (frameF L.nx d).size
    · have := stepC_full h hu ha (by omega) (by omega) hf
      rw [hap, if_neg (by rw [this]; decide), this]
      exact .inr ⟨rfl, by omega⟩
    · have e1 : stepC L (frameF L.nx d).size = (L, 0) := by
        unfold stepC
        rw [if_neg hf]
      obtain ⟨w1, w2, w3, a, p, w4, w5⟩ := stepC_ok h e1
      obtain ⟨p1, _⟩ := putDo_done (s := frameF L.nx d) w1 hu ha w4 (by omega)
      rw [hap, e1, if_pos rfl]
      exact .inl p1
theorem append_long {L : Lg} {ds : List SegP.Bytes} {n m : Nat} {d : ByteArray} (h : WF L ds n m) (hd : 65536 < d.size) : appendL L d = (L, 4) := by
  rw [appendL, if_pos h.okL, appendDo, h.br, if_neg (by simp), if_pos hd]
/-- What SegmentWhole asks of the append behind the crash. -/
theorem more_plain {M : Lg} {es : List SegP.Bytes} {more : ByteArray} (h : WF M es 1 (1 + es.length)) (hu : M.fu = -1) (ha : M.fa = -1) :
    ∃ K e, appendL M more = (K, e) ∧ (65536 < more.size → e = 4) ∧ (more.size ≤ 65536 → e = 0 ∨ e = 8) ∧ (more.size ≤ 65536 → M.l.length < 64 → e = 0 ∧ recordsL K = (recR (es ++ [byt more]) 1, 0)) := by
  have hm : 1 + es.length < most := by
    have := h.few
    unfold most
    omega
  refine ⟨(appendL M more).1, (appendL M more).2, rfl, fun hl => by rw [append_long h hl], fun hl => ?_, fun hl h64 => ?_⟩
  · rcases append_or h hu ha hl hm with h1 | ⟨h1, _⟩
    · exact .inl h1
    · exact .inr h1
  · obtain ⟨R, hR, _⟩ := append_done h hu ha hl hm h64
    obtain ⟨w1, _⟩ := append_ok h hR
    rw [hR]
    exact ⟨rfl, w1.records⟩
theorem box_C62 {w : World} {g : Nat} {n : Int} {s : ByteArray} (h : ∀ j, w.cell? ⟨g, j, none⟩ = [.int .u64 n, .string s][j]?) : Kd.C k62 w (some ⟨g, 0, none⟩) [(⟨n, s⟩ : S62)].length [⟨n, s⟩] := by
  refine ⟨rfl, by simp only [List.length_singleton]; omega, fun _ => ⟨_, rfl, fun j p hj => ?_⟩⟩
  have hj0 : j = 0 := by
    have := (List.getElem?_eq_some_iff.1 hj).1
    simpa using this
  subst hj0
  simp only [List.getElem?_cons_zero, Option.some.injEq] at hj
  subst hj
  refine ⟨_, rfl, k62_mk w _, fun i u hu => ?_⟩
  rw [add_plain']
  have := h (0 + (0 * k62.sz + i))
  rw [show 0 + (0 * k62.sz + i) = i by omega] at this
  rw [show 0 + (0 * k62.sz + i) = i by omega, this]
  exact hu
set_option maxHeartbeats 8000000 in
set_option maxRecDepth 100000 in
theorem whole_any (Ad : Option Addr) (cd : Nat) (data : List ByteArray) (size fu : Int) (last more : ByteArray) (Ak : Option Addr) (ck : Nat) (ks : List Int) (w : World) (hr : Kd.C Kd.string w Ad data.length data) (hc : data.length ≤ cd) (hrk : Kd.C (Kd.int .i64) w Ak ks.length ks) (hck : ks.length ≤ ck) (hG : Gl w) :
    Calls Tryz.prog 7 #[.int .i64 size, .slice Ad data.length cd, .string last, .int .i64 fu, .slice Ak ks.length ck, .string more] w fun e w' => e = .returned (.bool true) ∧ Below w.heap.size w w' := by
  have HRp := Aside0.mk hr
  have HCp := Aside0.mk hc
  have HRk := Aside0.mk hrk
  have HCk := Aside0.mk hck
  have HG := Aside0.mk hG
  have HKP := Aside0.mk (fun w hr hc hG => kept_any Ad cd data size fu (-1) last w hr hc hG)
  clear hr hc hrk hck hG
  obtain ⟨R, want, why, hK⟩ : ∃ R want why, keptF size data last fu (-1) = (R, want, why) := ⟨_, _, _, rfl⟩
  rw [hK] at HKP
  dsimp only at HKP
  have HK := Aside0.mk hK
  clear hK
  have H := Aside0.mk (Sep.start w)
  go_enter Tryz.func7, Tryz.ntmps7
  go_wp2_with fail
  refine ((lives_any _ (HG.out.below H.out.below)).mono ?_)
  rintro e wd1 ⟨rfl, hb_⟩
  have n_ : Aside0 (Sep w wd1 []) := ⟨H.out.step hb_⟩
  clear H
  have H := n_
  clear n_
  clear hb_
  go_wp2_with fail
  refine ((HKP.out _ (H.out.came HRp.out) HCp.out (HG.out.below H.out.below)).mono ?_)
  rintro e wd2 ⟨A1, c1, A2, c2, rfl, HJ⟩
  have n_ : Aside0 (Sep w wd2 [row k67 67 (.slice A1 (R.l).length c1) R.l, row k62 62 (.slice A2 (want).length c2) want]) := ⟨sep_join H.out HJ.out⟩
  clear H
  have H := n_
  clear n_
  clear HJ
  simp only [lgc]
  clear HKP
  by_cases hs1 : size < 1
  ·
    go_wp2_with (first
 | ((with_reducible refine gate_dst (N := 13) rfl ?_);
    refine new_box rfl H (cs := [.slice none 0 0, .bool false, .int .i64 0, .int .i64 0, .int .i64 0, .int .u64 0, .int .u64 0, .bool false]) (t := 30) ?hr ?_;
    (case hr => first | (go_simp; done) | (go_simp; rfl));
    intro gb wd3 n_;
    simp only [Act.put, List.setIfInBounds_toArray, List.set_cons_zero, List.set_cons_succ];
    clear H;
    have H := n_;
    clear n_;
    have c_b := H.out.cell (g := gb) mem0;
    have z_b := H.out.frozen (g := gb) mem0)
 | ((with_reducible refine gate_store (t := 30) (p := 13) rfl ?_);
    refine put_box (rs1 := [box gb [.slice A1 R.l.length c1, .bool R.dn, .int .i64 R.fu, .int .i64 R.fa, .int .i64 R.size, .int .u64 R.fr, .int .u64 R.nx, .bool R.br] 30, row k67 67 (.slice A1 (R.l).length c1) R.l, row k62 62 (.slice A2 (want).length c2) want]) rfl (t := 30) (p := 13) rfl rfl ?hr (H1 := (Sep.set0 (Sep.set0 (Sep.set0 (Sep.set0 (Sep.set0 (Sep.set0 (Sep.set0 (Sep.set0 H.out 0 (.slice A1 R.l.length c1) rfl) 1 (.bool R.dn) rfl) 2 (.int .i64 R.fu) rfl) 3 (.int .i64 R.fa) rfl) 4 (.int .i64 R.size) rfl) 5 (.int .u64 R.fr) rfl) 6 (.int .u64 R.nx) rfl) 7 (.bool R.br) rfl)) ?_;
    (case hr => first | (go_simp; done) | (go_simp; rfl));
    intro wd4 n_;
    clear H c_b z_b;
    have H := n_;
    clear n_;
    have c_b := H.out.cell (g := gb) mem0;
    have z_b := H.out.frozen (g := gb) mem0)
 | fail)
    go_ret
    exact ⟨rfl, H.out.below⟩
  ·
    by_cases hs2 : 262144 < size
    ·
      go_wp2_with (first
 | ((with_reducible refine gate_dst (N := 13) rfl ?_);
    refine new_box rfl H (cs := [.slice none 0 0, .bool false, .int .i64 0, .int .i64 0, .int .i64 0, .int .u64 0, .int .u64 0, .bool false]) (t := 30) ?hr ?_;
    (case hr => first | (go_simp; done) | (go_simp; rfl));
    intro gb wd5 n_;
    simp only [Act.put, List.setIfInBounds_toArray, List.set_cons_zero, List.set_cons_succ];
    clear H;
    have H := n_;
    clear n_;
    have c_b := H.out.cell (g := gb) mem0;
    have z_b := H.out.frozen (g := gb) mem0)
 | ((with_reducible refine gate_store (t := 30) (p := 13) rfl ?_);
    refine put_box (rs1 := [box gb [.slice A1 R.l.length c1, .bool R.dn, .int .i64 R.fu, .int .i64 R.fa, .int .i64 R.size, .int .u64 R.fr, .int .u64 R.nx, .bool R.br] 30, row k67 67 (.slice A1 (R.l).length c1) R.l, row k62 62 (.slice A2 (want).length c2) want]) rfl (t := 30) (p := 13) rfl rfl ?hr (H1 := (Sep.set0 (Sep.set0 (Sep.set0 (Sep.set0 (Sep.set0 (Sep.set0 (Sep.set0 (Sep.set0 H.out 0 (.slice A1 R.l.length c1) rfl) 1 (.bool R.dn) rfl) 2 (.int .i64 R.fu) rfl) 3 (.int .i64 R.fa) rfl) 4 (.int .i64 R.size) rfl) 5 (.int .u64 R.fr) rfl) 6 (.int .u64 R.nx) rfl) 7 (.bool R.br) rfl)) ?_;
    (case hr => first | (go_simp; done) | (go_simp; rfl));
    intro wd6 n_;
    clear H c_b z_b;
    have H := n_;
    clear n_;
    have c_b := H.out.cell (g := gb) mem0;
    have z_b := H.out.frozen (g := gb) mem0)
 | fail)
      go_ret
      exact ⟨rfl, H.out.below⟩
    ·
      by_cases hw4 : why = 4
      ·
        subst hw4
        go_wp2_with (first
 | ((with_reducible refine gate_dst (N := 13) rfl ?_);
    refine new_box rfl H (cs := [.slice none 0 0, .bool false, .int .i64 0, .int .i64 0, .int .i64 0, .int .u64 0, .int .u64 0, .bool false]) (t := 30) ?hr ?_;
    (case hr => first | (go_simp; done) | (go_simp; rfl));
    intro gb wd7 n_;
    simp only [Act.put, List.setIfInBounds_toArray, List.set_cons_zero, List.set_cons_succ];
    clear H;
    have H := n_;
    clear n_;
    have c_b := H.out.cell (g := gb) mem0;
    have z_b := H.out.frozen (g := gb) mem0)
 | ((with_reducible refine gate_store (t := 30) (p := 13) rfl ?_);
    refine put_box (rs1 := [box gb [.slice A1 R.l.length c1, .bool R.dn, .int .i64 R.fu, .int .i64 R.fa, .int .i64 R.size, .int .u64 R.fr, .int .u64 R.nx, .bool R.br] 30, row k67 67 (.slice A1 (R.l).length c1) R.l, row k62 62 (.slice A2 (want).length c2) want]) rfl (t := 30) (p := 13) rfl rfl ?hr (H1 := (Sep.set0 (Sep.set0 (Sep.set0 (Sep.set0 (Sep.set0 (Sep.set0 (Sep.set0 (Sep.set0 H.out 0 (.slice A1 R.l.length c1) rfl) 1 (.bool R.dn) rfl) 2 (.int .i64 R.fu) rfl) 3 (.int .i64 R.fa) rfl) 4 (.int .i64 R.size) rfl) 5 (.int .u64 R.fr) rfl) 6 (.int .u64 R.nx) rfl) 7 (.bool R.br) rfl)) ?_;
    (case hr => first | (go_simp; done) | (go_simp; rfl));
    intro wd8 n_;
    clear H c_b z_b;
    have H := n_;
    clear n_;
    have c_b := H.out.cell (g := gb) mem0;
    have z_b := H.out.frozen (g := gb) mem0)
 | fail)
        go_ret
        exact ⟨rfl, H.out.below⟩
      ·
        obtain ⟨hR, M, ds, es, hwant, hO, hWM, -, hMu, hMa, hes⟩ := keeps_plain (by omega) (by omega) HK.out ks
        obtain ⟨K, e2, hKm, hm1, hm2, hm3⟩ := more_plain (more := more) hWM hMu hMa
        have HR := Aside0.mk hR
        have HO := Aside0.mk (fun A c w hr hc hG => open_any A c (crashF R.l ks) false (-1) (-1) size w hr hc hG)
        rw [hO] at HO
        dsimp only at HO
        obtain ⟨got, hgot⟩ : ∃ got, got = recR (ds ++ es) 1 := ⟨_, rfl⟩
        rw [← hgot] at HO
        have HWM := Aside0.mk hWM
        have HGL : Aside0 (got.length = want.length + es.length ∧ got.length ≤ 1048576) := ⟨by
          have h1 := hWM.few
          rw [hgot, hwant, recR_length, recR_length]
          rw [List.length_append] at h1 ⊢
          exact ⟨rfl, h1⟩⟩
        have HGT : Aside0 (got = want ++ recR es (1 + ds.length)) := ⟨by rw [hgot, hwant]; exact recR_split ds es 1⟩
        have HES := Aside0.mk hes
        have HM1 := Aside0.mk hm1
        have HM2 := Aside0.mk hm2
        have HM3 : Aside0 (more.size ≤ 65536 → M.l.length < 64 → e2 = 0 ∧ recordsL K = (got ++ [⟨M.nx, more⟩], 0)) := ⟨fun h1 h2 => by
          obtain ⟨h3, h4⟩ := hm3 h1 h2
          refine ⟨h3, ?_⟩
          rw [h4, recR_split, ← hgot, hWM.nx]
          simp only [recR, mk_byt]⟩
        have HNX : Aside0 (0 ≤ M.nx ∧ M.nx < 18446744073709551616) := ⟨by have h1 := hWM.nx; have h2 := hWM.top; unfold most at h2; omega⟩
        have HML : Aside0 (M.l.length ≤ 64) := ⟨right_len hWM.right⟩
        have HAP := Aside0.mk (fun A c w hr hc hG => append_any A c M more w hr hc hG HNX.out.1 HNX.out.2)
        rw [hKm] at HAP
        dsimp only at HAP
        have HRC := Aside0.mk (fun A c w hr hc hG => records_any A c K w hr hc hG)
        obtain ⟨rk, e3, hRK⟩ : ∃ rk e3, recordsL K = (rk, e3) := ⟨_, _, rfl⟩
        have HRK := Aside0.mk hRK
        rw [hRK] at HRC
        dsimp only at HRC
        clear hR hO hWM hgot hwant hes hMu hMa hKm hm1 hm2 hm3 hRK
        go_wp2_with (first
 | ((with_reducible refine gate_dst (N := 13) rfl ?_);
    refine new_box rfl H (cs := [.slice none 0 0, .bool false, .int .i64 0, .int .i64 0, .int .i64 0, .int .u64 0, .int .u64 0, .bool false]) (t := 30) ?hr ?_;
    (case hr => first | (go_simp; done) | (go_simp; rfl));
    intro gb wd9 n_;
    simp only [Act.put, List.setIfInBounds_toArray, List.set_cons_zero, List.set_cons_succ];
    clear H;
    have H := n_;
    clear n_;
    have c_b := H.out.cell (g := gb) mem0;
    have z_b := H.out.frozen (g := gb) mem0)
 | ((with_reducible refine gate_store (t := 30) (p := 13) rfl ?_);
    refine put_box (rs1 := [box gb [.slice A1 R.l.length c1, .bool R.dn, .int .i64 R.fu, .int .i64 R.fa, .int .i64 R.size, .int .u64 R.fr, .int .u64 R.nx, .bool R.br] 30, row k67 67 (.slice A1 (R.l).length c1) R.l, row k62 62 (.slice A2 (want).length c2) want]) rfl (t := 30) (p := 13) rfl rfl ?hr (H1 := (Sep.set0 (Sep.set0 (Sep.set0 (Sep.set0 (Sep.set0 (Sep.set0 (Sep.set0 (Sep.set0 H.out 0 (.slice A1 R.l.length c1) rfl) 1 (.bool R.dn) rfl) 2 (.int .i64 R.fu) rfl) 3 (.int .i64 R.fa) rfl) 4 (.int .i64 R.size) rfl) 5 (.int .u64 R.fr) rfl) 6 (.int .u64 R.nx) rfl) 7 (.bool R.br) rfl)) ?_;
    (case hr => first | (go_simp; done) | (go_simp; rfl));
    intro wd10 n_;
    clear H c_b z_b;
    have H := n_;
    clear n_;
    have c_b := H.out.cell (g := gb) mem0;
    have z_b := H.out.frozen (g := gb) mem0)
 | fail)
        refine ((disk_Crash.calls A1 c1 R.l R.dn R.fu R.fa Ak ck ks (crashF R.l ks) false (-1) (-1) 0 _ (H.out.reads mem1).2.2 (H.out.reads mem1).2.1 (H.out.came HRk.out) HCk.out (by rw [disk_Crash.f, if_pos HR.out])).mono ?_)
        rintro e wd11 ⟨v_, rfl, ho_, hb_⟩
        obtain ⟨Af, cf, eo_⟩ := Kd.R_slice ho_
        subst eo_
        have n_ : Aside0 (Sep w wd11 [row k67 67 (.slice Af ((crashF R.l ks)).length cf) ((crashF R.l ks)), box gb [.slice A1 R.l.length c1, .bool R.dn, .int .i64 R.fu, .int .i64 R.fa, .int .i64 R.size, .int .u64 R.fr, .int .u64 R.nx, .bool R.br] 30, row k67 67 (.slice A1 (R.l).length c1) R.l, row k62 62 (.slice A2 (want).length c2) want]) := ⟨Sep.push_row H.out hb_ ho_ k67_flat⟩
        clear H c_b z_b
        have H := n_
        clear n_
        have c_b := H.out.cell (g := gb) mem1
        have z_b := H.out.frozen (g := gb) mem1
        clear ho_ hb_
        go_wp2_with (first
 | ((with_reducible refine gate_dst (N := 16) rfl ?_);
    refine new_box rfl H (cs := [.slice none 0 0, .bool false, .int .i64 0, .int .i64 0]) (t := 27) ?hr ?_;
    (case hr => first | (go_simp; done) | (go_simp; rfl));
    intro gd wd12 n_;
    simp only [Act.put, List.setIfInBounds_toArray, List.set_cons_zero, List.set_cons_succ];
    clear H c_b z_b;
    have H := n_;
    clear n_;
    have c_d := H.out.cell (g := gd) mem0;
    have z_d := H.out.frozen (g := gd) mem0;
    have c_b := H.out.cell (g := gb) mem2)
 | ((with_reducible refine gate_store (t := 27) (p := 16) rfl ?_);
    refine put_box (rs1 := [box gd [.slice Af (crashF R.l ks).length cf, .bool false, .int .i64 (-1), .int .i64 (-1)] 27, row k67 67 (.slice Af ((crashF R.l ks)).length cf) ((crashF R.l ks)), box gb [.slice A1 R.l.length c1, .bool R.dn, .int .i64 R.fu, .int .i64 R.fa, .int .i64 R.size, .int .u64 R.fr, .int .u64 R.nx, .bool R.br] 30, row k67 67 (.slice A1 (R.l).length c1) R.l, row k62 62 (.slice A2 (want).length c2) want]) rfl (t := 27) (p := 16) rfl rfl ?hr (H1 := (Sep.set0 (Sep.set0 (Sep.set0 (Sep.set0 H.out 0 (.slice Af (crashF R.l ks).length cf) rfl) 1 (.bool false) rfl) 2 (.int .i64 (-1)) rfl) 3 (.int .i64 (-1)) rfl)) ?_;
    (case hr => first | (go_simp; done) | (go_simp; rfl));
    intro wd13 n_;
    clear H c_d z_d c_b;
    have H := n_;
    clear n_;
    have c_d := H.out.cell (g := gd) mem0;
    have z_d := H.out.frozen (g := gd) mem0;
    have c_b := H.out.cell (g := gb) mem2)
 | fail)
        refine ((HO.out _ _ _ (H.out.reads mem1).2.2 (H.out.reads mem1).2.1 (HG.out.below H.out.below)).mono ?_)
        rintro e wd14 ⟨A3, c3, A4, c4, rfl, HJ⟩
        have n_ : Aside0 (Sep w wd14 [row k67 67 (.slice A3 (M.l).length c3) M.l, row k62 62 (.slice A4 (got).length c4) got, box gd [.slice Af (crashF R.l ks).length cf, .bool false, .int .i64 (-1), .int .i64 (-1)] 27, row k67 67 (.slice Af ((crashF R.l ks)).length cf) ((crashF R.l ks)), box gb [.slice A1 R.l.length c1, .bool R.dn, .int .i64 R.fu, .int .i64 R.fa, .int .i64 R.size, .int .u64 R.fr, .int .u64 R.nx, .bool R.br] 30, row k67 67 (.slice A1 (R.l).length c1) R.l, row k62 62 (.slice A2 (want).length c2) want]) := ⟨sep_join H.out HJ.out⟩
        clear H c_d z_d c_b
        have H := n_
        clear n_
        have c_d := H.out.cell (g := gd) mem2
        have z_d := H.out.frozen (g := gd) mem2
        have c_b := H.out.cell (g := gb) mem4
        clear HJ
        simp only [lgc]
        clear HO
        have hw3 : wrap64 ((want.length : Int) + 1) = (want.length : Int) + 1 := by
          have := HGL.out
          unfold wrap64
          omega
        have hgl2 : ¬ (want.length : Int) + 1 < (got.length : Int) := by
          have h1 := HGL.out.1
          rcases HES.out with h | ⟨_, h⟩
          · rw [h] at h1; simp only [List.length_nil] at h1; omega
          · rw [h] at h1; simp only [List.length_singleton] at h1; omega
        go_upto_region 10 with (first
 | ((with_reducible refine gate_dst (N := 18) rfl ?_);
    refine new_box rfl H (cs := [.slice none 0 0, .bool false, .int .i64 0, .int .i64 0, .int .i64 0, .int .u64 0, .int .u64 0, .bool false]) (t := 30) ?hr ?_;
    (case hr => first | (go_simp; done) | (go_simp; rfl));
    intro gq wd15 n_;
    simp only [Act.put, List.setIfInBounds_toArray, List.set_cons_zero, List.set_cons_succ];
    clear H c_d z_d c_b;
    have H := n_;
    clear n_;
    have c_q := H.out.cell (g := gq) mem0;
    have z_q := H.out.frozen (g := gq) mem0;
    have c_d := H.out.cell (g := gd) mem3;
    have c_b := H.out.cell (g := gb) mem5)
 | ((with_reducible refine gate_store (t := 30) (p := 18) rfl ?_);
    refine put_box (rs1 := [box gq [.slice A3 M.l.length c3, .bool M.dn, .int .i64 M.fu, .int .i64 M.fa, .int .i64 M.size, .int .u64 M.fr, .int .u64 M.nx, .bool M.br] 30, row k67 67 (.slice A3 (M.l).length c3) M.l, row k62 62 (.slice A4 (got).length c4) got, box gd [.slice Af (crashF R.l ks).length cf, .bool false, .int .i64 (-1), .int .i64 (-1)] 27, row k67 67 (.slice Af ((crashF R.l ks)).length cf) ((crashF R.l ks)), box gb [.slice A1 R.l.length c1, .bool R.dn, .int .i64 R.fu, .int .i64 R.fa, .int .i64 R.size, .int .u64 R.fr, .int .u64 R.nx, .bool R.br] 30, row k67 67 (.slice A1 (R.l).length c1) R.l, row k62 62 (.slice A2 (want).length c2) want]) rfl (t := 30) (p := 18) rfl rfl ?hr (H1 := (Sep.set0 (Sep.set0 (Sep.set0 (Sep.set0 (Sep.set0 (Sep.set0 (Sep.set0 (Sep.set0 H.out 0 (.slice A3 M.l.length c3) rfl) 1 (.bool M.dn) rfl) 2 (.int .i64 M.fu) rfl) 3 (.int .i64 M.fa) rfl) 4 (.int .i64 M.size) rfl) 5 (.int .u64 M.fr) rfl) 6 (.int .u64 M.nx) rfl) 7 (.bool M.br) rfl)) ?_;
    (case hr => first | (go_simp; done) | (go_simp; rfl));
    intro wd16 n_;
    clear H c_q z_q c_d c_b;
    have H := n_;
    clear n_;
    have c_q := H.out.cell (g := gq) mem0;
    have z_q := H.out.frozen (g := gq) mem0;
    have c_d := H.out.cell (g := gd) mem3;
    have c_b := H.out.cell (g := gb) mem5)
 | fail)
        go_cut [99] (fun v99 wx => v99 = .bool false ∧ Aside0 (Sep w wx [box gq [.slice A3 M.l.length c3, .bool M.dn, .int .i64 M.fu, .int .i64 M.fa, .int .i64 M.size, .int .u64 M.fr, .int .u64 M.nx, .bool M.br] 30, row k67 67 (.slice A3 (M.l).length c3) M.l, row k62 62 (.slice A4 (got).length c4) got, box gd [.slice Af (crashF R.l ks).length cf, .bool false, .int .i64 (-1), .int .i64 (-1)] 27, row k67 67 (.slice Af ((crashF R.l ks)).length cf) ((crashF R.l ks)), box gb [.slice A1 R.l.length c1, .bool R.dn, .int .i64 R.fu, .int .i64 R.fa, .int .i64 R.size, .int .u64 R.fr, .int .u64 R.nx, .bool R.br] 30, row k67 67 (.slice A1 (R.l).length c1) R.l, row k62 62 (.slice A2 (want).length c2) want]))
        case first =>
          rcases HES.out with hes | ⟨hw0, hes⟩
          ·
            have hgn : (got.length : Int) = (want.length : Int) := by
              have h1 := HGL.out.1
              rw [hes] at h1
              simp only [List.length_nil] at h1
              omega
            clear hes
            by_cases hw0 : why = 0
            · subst hw0
              go_wp2_with fail
              go_meet
              exact ⟨rfl, H⟩
            · go_wp2_with fail
              go_meet
              exact ⟨rfl, H⟩
          ·
            have hgx : got = want ++ [(⟨((1 + ds.length : Nat) : Int), last⟩ : S62)] := by
              rw [HGT.out, hes]
              simp only [recR, mk_byt]
            have hgt : (want.length : Int) < (got.length : Int) := by rw [hgx, List.length_append, List.length_singleton]; omega
            have hx : got[want.length]? = some (⟨((1 + ds.length : Nat) : Int), last⟩ : S62) := by rw [hgx]; simp
            obtain ⟨ar, e1⟩ := row62 (H.out.reads (A := A4) mem2).2.2 (by omega)
            subst e1
            obtain ⟨q0, q1⟩ := at62 (H.out.reads (A := some ar) mem2).2.2 hx
            have hwl0 : (0 : Int) ≤ (want.length : Int) := by omega
            clear hgx hes hx q0
            go_wp2_with fail
            go_meet
            exact ⟨rfl, H⟩
        case rest =>
          obtain ⟨e99, n_⟩ := hcut
          subst e99
          clear H c_q z_q c_d c_b
          have H := n_
          clear n_
          have c_q := H.out.cell (g := gq) mem0
          have z_q := H.out.frozen (g := gq) mem0
          have c_d := H.out.cell (g := gd) mem3
          have c_b := H.out.cell (g := gb) mem5
          go_wp2_with fail
          refine ((HAP.out _ _ _ (H.out.reads mem1).2.2 (H.out.reads mem1).2.1 (HG.out.below H.out.below)).mono ?_)
          rintro e wd17 ⟨A5, c5, rfl, HJ⟩
          have n_ : Aside0 (Sep w wd17 [row k67 67 (.slice A5 (K.l).length c5) K.l, box gq [.slice A3 M.l.length c3, .bool M.dn, .int .i64 M.fu, .int .i64 M.fa, .int .i64 M.size, .int .u64 M.fr, .int .u64 M.nx, .bool M.br] 30, row k67 67 (.slice A3 (M.l).length c3) M.l, row k62 62 (.slice A4 (got).length c4) got, box gd [.slice Af (crashF R.l ks).length cf, .bool false, .int .i64 (-1), .int .i64 (-1)] 27, row k67 67 (.slice Af ((crashF R.l ks)).length cf) ((crashF R.l ks)), box gb [.slice A1 R.l.length c1, .bool R.dn, .int .i64 R.fu, .int .i64 R.fa, .int .i64 R.size, .int .u64 R.fr, .int .u64 R.nx, .bool R.br] 30, row k67 67 (.slice A1 (R.l).length c1) R.l, row k62 62 (.slice A2 (want).length c2) want]) := ⟨sep_join H.out HJ.out⟩
          clear H c_q z_q c_d c_b
          have H := n_
          clear n_
          have c_q := H.out.cell (g := gq) mem1
          have z_q := H.out.frozen (g := gq) mem1
          have c_d := H.out.cell (g := gd) mem4
          have c_b := H.out.cell (g := gb) mem6
          clear HJ
          simp only [lgc]
          clear HAP
          by_cases hmm : 65536 < more.size
          ·
            have he4 := HM1.out hmm
            subst he4
            have hmi : (65536 : Int) < (more.size : Int) := by omega
            go_wp2_with (first
 | ((with_reducible refine gate_dst (N := 21) rfl ?_);
    refine new_box rfl H (cs := [.slice none 0 0, .bool false, .int .i64 0, .int .i64 0, .int .i64 0, .int .u64 0, .int .u64 0, .bool false]) (t := 30) ?hr ?_;
    (case hr => first | (go_simp; done) | (go_simp; rfl));
    intro gy wd18 n_;
    simp only [Act.put, List.setIfInBounds_toArray, List.set_cons_zero, List.set_cons_succ];
    clear H c_q z_q c_d c_b;
    have H := n_;
    clear n_;
    have c_y := H.out.cell (g := gy) mem0;
    have z_y := H.out.frozen (g := gy) mem0;
    have c_q := H.out.cell (g := gq) mem2;
    have c_d := H.out.cell (g := gd) mem5;
    have c_b := H.out.cell (g := gb) mem7)
 | ((with_reducible refine gate_store (t := 30) (p := 21) rfl ?_);
    refine put_box (rs1 := [box gy [.slice A5 K.l.length c5, .bool K.dn, .int .i64 K.fu, .int .i64 K.fa, .int .i64 K.size, .int .u64 K.fr, .int .u64 K.nx, .bool K.br] 30, row k67 67 (.slice A5 (K.l).length c5) K.l, box gq [.slice A3 M.l.length c3, .bool M.dn, .int .i64 M.fu, .int .i64 M.fa, .int .i64 M.size, .int .u64 M.fr, .int .u64 M.nx, .bool M.br] 30, row k67 67 (.slice A3 (M.l).length c3) M.l, row k62 62 (.slice A4 (got).length c4) got, box gd [.slice Af (crashF R.l ks).length cf, .bool false, .int .i64 (-1), .int .i64 (-1)] 27, row k67 67 (.slice Af ((crashF R.l ks)).length cf) ((crashF R.l ks)), box gb [.slice A1 R.l.length c1, .bool R.dn, .int .i64 R.fu, .int .i64 R.fa, .int .i64 R.size, .int .u64 R.fr, .int .u64 R.nx, .bool R.br] 30, row k67 67 (.slice A1 (R.l).length c1) R.l, row k62 62 (.slice A2 (want).length c2) want]) rfl (t := 30) (p := 21) rfl rfl ?hr (H1 := (Sep.set0 (Sep.set0 (Sep.set0 (Sep.set0 (Sep.set0 (Sep.set0 (Sep.set0 (Sep.set0 H.out 0 (.slice A5 K.l.length c5) rfl) 1 (.bool K.dn) rfl) 2 (.int .i64 K.fu) rfl) 3 (.int .i64 K.fa) rfl) 4 (.int .i64 K.size) rfl) 5 (.int .u64 K.fr) rfl) 6 (.int .u64 K.nx) rfl) 7 (.bool K.br) rfl)) ?_;
    (case hr => first | (go_simp; done) | (go_simp; rfl));
    intro wd19 n_;
    clear H c_y z_y c_q c_d c_b;
    have H := n_;
    clear n_;
    have c_y := H.out.cell (g := gy) mem0;
    have z_y := H.out.frozen (g := gy) mem0;
    have c_q := H.out.cell (g := gq) mem2;
    have c_d := H.out.cell (g := gd) mem5;
    have c_b := H.out.cell (g := gb) mem7)
 | fail)
            go_ret
            exact ⟨rfl, H.out.below⟩
          ·
            have hmi : ¬ (65536 : Int) < (more.size : Int) := by omega
            go_wp2_with (first
 | ((with_reducible refine gate_dst (N := 21) rfl ?_);
    refine new_box rfl H (cs := [.slice none 0 0, .bool false, .int .i64 0, .int .i64 0, .int .i64 0, .int .u64 0, .int .u64 0, .bool false]) (t := 30) ?hr ?_;
    (case hr => first | (go_simp; done) | (go_simp; rfl));
    intro gy wd20 n_;
    simp only [Act.put, List.setIfInBounds_toArray, List.set_cons_zero, List.set_cons_succ];
    clear H c_q z_q c_d c_b;
    have H := n_;
    clear n_;
    have c_y := H.out.cell (g := gy) mem0;
    have z_y := H.out.frozen (g := gy) mem0;
    have c_q := H.out.cell (g := gq) mem2;
    have c_d := H.out.cell (g := gd) mem5;
    have c_b := H.out.cell (g := gb) mem7)
 | ((with_reducible refine gate_store (t := 30) (p := 21) rfl ?_);
    refine put_box (rs1 := [box gy [.slice A5 K.l.length c5, .bool K.dn, .int .i64 K.fu, .int .i64 K.fa, .int .i64 K.size, .int .u64 K.fr, .int .u64 K.nx, .bool K.br] 30, row k67 67 (.slice A5 (K.l).length c5) K.l, box gq [.slice A3 M.l.length c3, .bool M.dn, .int .i64 M.fu, .int .i64 M.fa, .int .i64 M.size, .int .u64 M.fr, .int .u64 M.nx, .bool M.br] 30, row k67 67 (.slice A3 (M.l).length c3) M.l, row k62 62 (.slice A4 (got).length c4) got, box gd [.slice Af (crashF R.l ks).length cf, .bool false, .int .i64 (-1), .int .i64 (-1)] 27, row k67 67 (.slice Af ((crashF R.l ks)).length cf) ((crashF R.l ks)), box gb [.slice A1 R.l.length c1, .bool R.dn, .int .i64 R.fu, .int .i64 R.fa, .int .i64 R.size, .int .u64 R.fr, .int .u64 R.nx, .bool R.br] 30, row k67 67 (.slice A1 (R.l).length c1) R.l, row k62 62 (.slice A2 (want).length c2) want]) rfl (t := 30) (p := 21) rfl rfl ?hr (H1 := (Sep.set0 (Sep.set0 (Sep.set0 (Sep.set0 (Sep.set0 (Sep.set0 (Sep.set0 (Sep.set0 H.out 0 (.slice A5 K.l.length c5) rfl) 1 (.bool K.dn) rfl) 2 (.int .i64 K.fu) rfl) 3 (.int .i64 K.fa) rfl) 4 (.int .i64 K.size) rfl) 5 (.int .u64 K.fr) rfl) 6 (.int .u64 K.nx) rfl) 7 (.bool K.br) rfl)) ?_;
    (case hr => first | (go_simp; done) | (go_simp; rfl));
    intro wd21 n_;
    clear H c_y z_y c_q c_d c_b;
    have H := n_;
    clear n_;
    have c_y := H.out.cell (g := gy) mem0;
    have z_y := H.out.frozen (g := gy) mem0;
    have c_q := H.out.cell (g := gq) mem2;
    have c_d := H.out.cell (g := gd) mem5;
    have c_b := H.out.cell (g := gb) mem7)
 | fail)
            refine ((HRC.out _ _ _ (H.out.reads mem1).2.2 (H.out.reads mem1).2.1 (HG.out.below H.out.below)).mono ?_)
            rintro e wd22 ⟨A6, c6, rfl, HJ⟩
            have n_ : Aside0 (Sep w wd22 [row k62 62 (.slice A6 (rk).length c6) rk, box gy [.slice A5 K.l.length c5, .bool K.dn, .int .i64 K.fu, .int .i64 K.fa, .int .i64 K.size, .int .u64 K.fr, .int .u64 K.nx, .bool K.br] 30, row k67 67 (.slice A5 (K.l).length c5) K.l, box gq [.slice A3 M.l.length c3, .bool M.dn, .int .i64 M.fu, .int .i64 M.fa, .int .i64 M.size, .int .u64 M.fr, .int .u64 M.nx, .bool M.br] 30, row k67 67 (.slice A3 (M.l).length c3) M.l, row k62 62 (.slice A4 (got).length c4) got, box gd [.slice Af (crashF R.l ks).length cf, .bool false, .int .i64 (-1), .int .i64 (-1)] 27, row k67 67 (.slice Af ((crashF R.l ks)).length cf) ((crashF R.l ks)), box gb [.slice A1 R.l.length c1, .bool R.dn, .int .i64 R.fu, .int .i64 R.fa, .int .i64 R.size, .int .u64 R.fr, .int .u64 R.nx, .bool R.br] 30, row k67 67 (.slice A1 (R.l).length c1) R.l, row k62 62 (.slice A2 (want).length c2) want]) := ⟨sep_join H.out HJ.out⟩
            clear H c_y z_y c_q c_d c_b
            have H := n_
            clear n_
            have c_y := H.out.cell (g := gy) mem1
            have z_y := H.out.frozen (g := gy) mem1
            have c_q := H.out.cell (g := gq) mem3
            have c_d := H.out.cell (g := gd) mem6
            have c_b := H.out.cell (g := gb) mem8
            clear HJ
            clear HRC
            by_cases h64 : M.l.length < 64
            ·
              obtain ⟨he0, hrk⟩ := HM3.out (by omega) h64
              have hrk2 := hrk.symm.trans HRK.out
              obtain ⟨hrk3, hrk4⟩ := Prod.mk.inj hrk2
              subst he0 hrk4
              have HRV := Aside0.mk hrk3
              have HSR := Aside0.mk (samerec_refl rk (by rw [← hrk3, List.length_append, List.length_singleton]; have := HGL.out.2; omega))
              have h64i : ¬ (64 : Int) ≤ (M.l.length : Int) := by omega
              clear hrk hrk2 hrk3
              go_upto_region 18 with fail
              refine start_ (n := 20) (S := fun w' => (∀ j : Nat, w'.cell? ⟨gq, j, none⟩ = [.slice A3 M.l.length c3, .bool M.dn, .int .i64 M.fu, .int .i64 M.fa, .int .i64 M.size, .int .u64 M.fr, .int .u64 M.nx, .bool M.br][j]?) ∧ Sp.Sep w w' [row k62 62 (.slice A6 (rk).length c6) rk, box gy [.slice A5 K.l.length c5, .bool K.dn, .int .i64 K.fu, .int .i64 K.fa, .int .i64 K.size, .int .u64 K.fr, .int .u64 K.nx, .bool K.br] 30, row k67 67 (.slice A5 (K.l).length c5) K.l, box gq [.slice A3 M.l.length c3, .bool M.dn, .int .i64 M.fu, .int .i64 M.fa, .int .i64 M.size, .int .u64 M.fr, .int .u64 M.nx, .bool M.br] 30, row k67 67 (.slice A3 (M.l).length c3) M.l, row k62 62 (.slice A4 (got).length c4) got, box gd [.slice Af (crashF R.l ks).length cf, .bool false, .int .i64 (-1), .int .i64 (-1)] 27, row k67 67 (.slice Af ((crashF R.l ks)).length cf) ((crashF R.l ks)), box gb [.slice A1 R.l.length c1, .bool R.dn, .int .i64 R.fu, .int .i64 R.fa, .int .i64 R.size, .int .u64 R.fr, .int .u64 R.nx, .bool R.br] 30, row k67 67 (.slice A1 (R.l).length c1) R.l, row k62 62 (.slice A2 (want).length c2) want]) (ds := []) #[false, false, false, false, false, false, false, false, false, false, false, false, false, false, false, false, false, false, false, false] (by kernel_rfl) rfl rfl ⟨(fun j => ((Sep.drew H.out)).cell (g := gq) mem3 j), (Sep.drew H.out)⟩ (fun hHeld => ?_)
              refine pure_ (i := 0) (N := some 127) (v := ?_) (a' := ?_) #[true, false, false, false, false, false, false, false, false, false, false, false, false, false, false, false, false, false, false, false] rfl rfl (by kernel_rfl) (fun _ _ _ h => h) (Or.inl ⟨by rfl, ?_⟩) ?_ ?_
              rotate_left
              · intro w'
                go_simp
                with_reducible rfl
              rotate_left
              · simp only [Act.put, List.setIfInBounds_toArray, List.set_cons_zero, List.set_cons_succ, i64_w, i32_w]
                rfl
              refine pure_ (i := 1) (N := some 128) (v := ?_) (a' := ?_) #[true, true, false, false, false, false, false, false, false, false, false, false, false, false, false, false, false, false, false, false] rfl rfl (by kernel_rfl) (fun _ _ _ h => h) (Or.inl ⟨by rfl, ?_⟩) ?_ ?_
              rotate_left
              · intro w'
                go_simp
                with_reducible rfl
              rotate_left
              · simp only [Act.put, List.setIfInBounds_toArray, List.set_cons_zero, List.set_cons_succ, i64_w, i32_w]
                rfl
              refine pure_ (i := 2) (N := some 129) (v := ?_) (a' := ?_) #[true, true, true, false, false, false, false, false, false, false, false, false, false, false, false, false, false, false, false, false] rfl rfl (by kernel_rfl) (fun _ _ _ h => h) (Or.inl ⟨by rfl, ?_⟩) ?_ ?_
              rotate_left
              · intro w'
                go_simp
                with_reducible rfl
              rotate_left
              · simp only [Act.put, List.setIfInBounds_toArray, List.set_cons_zero, List.set_cons_succ, i64_w, i32_w]
                rfl
              refine pure_ (i := 3) (N := some 130) (v := ?_) (a' := ?_) #[true, true, true, true, false, false, false, false, false, false, false, false, false, false, false, false, false, false, false, false] rfl rfl (by kernel_rfl) (fun _ _ _ h => h) (Or.inl ⟨by rfl, ?_⟩) ?_ ?_
              rotate_left
              · intro w'
                go_simp
                with_reducible rfl
              rotate_left
              · simp only [Act.put, List.setIfInBounds_toArray, List.set_cons_zero, List.set_cons_succ, i64_w, i32_w]
                rfl
              refine pure_ (i := 4) (N := some 131) (v := ?_) (a' := ?_) #[true, true, true, true, true, false, false, false, false, false, false, false, false, false, false, false, false, false, false, false] rfl rfl (by kernel_rfl) (fun _ _ _ h => h) (Or.inl ⟨by rfl, ?_⟩) ?_ ?_
              rotate_left
              · intro w'
                go_simp
                with_reducible rfl
              rotate_left
              · simp only [Act.put, List.setIfInBounds_toArray, List.set_cons_zero, List.set_cons_succ, i64_w, i32_w]
                rfl
              refine pure_ (i := 5) (N := some 132) (v := ?_) (a' := ?_) #[true, true, true, true, true, true, false, false, false, false, false, false, false, false, false, false, false, false, false, false] rfl rfl (by kernel_rfl) (fun _ _ _ h => h) (Or.inl ⟨by rfl, ?_⟩) ?_ ?_
              rotate_left
              · intro w'
                go_simp
                with_reducible rfl
              rotate_left
              · simp only [Act.put, List.setIfInBounds_toArray, List.set_cons_zero, List.set_cons_succ, i64_w, i32_w]
                rfl
              refine pure_ (i := 6) (N := some 133) (v := ?_) (a' := ?_) #[true, true, true, true, true, true, true, false, false, false, false, false, false, false, false, false, false, false, false, false] rfl rfl (by kernel_rfl) (fun _ _ _ h => h) (Or.inl ⟨by rfl, ?_⟩) ?_ ?_
              rotate_left
              · intro w'
                go_simp
                with_reducible rfl
              rotate_left
              · simp only [Act.put, List.setIfInBounds_toArray, List.set_cons_zero, List.set_cons_succ, i64_w, i32_w]
                rfl
              refine pure_ (i := 7) (N := some 134) (v := ?_) (a' := ?_) #[true, true, true, true, true, true, true, true, false, false, false, false, false, false, false, false, false, false, false, false] rfl rfl (by kernel_rfl) (fun _ _ _ h => h) (Or.inl ⟨by rfl, ?_⟩) ?_ ?_
              rotate_left
              · intro w'
                go_simp
                with_reducible rfl
              rotate_left
              · simp only [Act.put, List.setIfInBounds_toArray, List.set_cons_zero, List.set_cons_succ, i64_w, i32_w]
                rfl
              refine pure_ (i := 9) (N := some 136) (v := ?_) (a' := ?_) #[true, true, true, true, true, true, true, true, false, true, false, false, false, false, false, false, false, false, false, false] rfl rfl (by kernel_rfl) (fun _ _ _ h => h) (Or.inl ⟨by rfl, ?_⟩) ?_ ?_
              rotate_left
              · intro w'
                go_simp
                with_reducible rfl
              rotate_left
              · simp only [Act.put, List.setIfInBounds_toArray, List.set_cons_zero, List.set_cons_succ, i64_w, i32_w]
                rfl
              refine pure_ (i := 11) (N := some 138) (v := ?_) (a' := ?_) #[true, true, true, true, true, true, true, true, false, true, false, true, false, false, false, false, false, false, false, false] rfl rfl (by kernel_rfl) (fun _ _ _ h => h) (Or.inl ⟨by rfl, ?_⟩) ?_ ?_
              rotate_left
              · intro w'
                go_simp
                with_reducible rfl
              rotate_left
              · simp only [Act.put, List.setIfInBounds_toArray, List.set_cons_zero, List.set_cons_succ, i64_w, i32_w]
                rfl
              refine pure_ (i := 13) (N := some 140) (v := ?_) (a' := ?_) #[true, true, true, true, true, true, true, true, false, true, false, true, false, true, false, false, false, false, false, false] rfl rfl (by kernel_rfl) (fun _ _ _ h => h) (Or.inl ⟨by rfl, ?_⟩) ?_ ?_
              rotate_left
              · intro w'
                go_simp
                with_reducible rfl
              rotate_left
              · simp only [Act.put, List.setIfInBounds_toArray, List.set_cons_zero, List.set_cons_succ, i64_w, i32_w]
                rfl
              refine take_ (i := 12) (N := some 139) (v := ?_) (a' := ?_) #[true, true, true, true, true, true, true, true, false, true, false, true, true, true, false, false, false, false, false, false] rfl rfl (by kernel_rfl) (fun _ _ _ h => h) (Or.inl ⟨by rfl, ?_⟩) hHeld ?_ ?_
              rotate_left
              · rintro w' ⟨s0, s1⟩
                go_simp
                with_reducible rfl
              rotate_left
              · simp only [Act.put, List.setIfInBounds_toArray, List.set_cons_zero, List.set_cons_succ, i64_w, i32_w]
                rfl
              refine pure_ (i := 14) (N := some 141) (v := ?_) (a' := ?_) #[true, true, true, true, true, true, true, true, false, true, false, true, true, true, true, false, false, false, false, false] rfl rfl (by kernel_rfl) (fun _ _ _ h => h) (Or.inl ⟨by rfl, ?_⟩) ?_ ?_
              rotate_left
              · intro w'
                go_simp
                with_reducible rfl
              rotate_left
              · simp only [Act.put, List.setIfInBounds_toArray, List.set_cons_zero, List.set_cons_succ, i64_w, i32_w]
                rfl
              refine join_ (σ := Nat × Nat × Option Addr × Nat) 4 #[true, true, true, true, true, true, true, true, true, true, true, true, true, true, true, true, false, false, false, false] (fun s => [(135, .slice (some ⟨s.1, 0, none⟩) 0 0), (137, .slice s.2.2.1 got.length s.2.2.2), (142, .slice (some ⟨s.2.1, 0, none⟩) 1 1)]) (fun s w' => (∀ j : Nat, w'.cell? ⟨gq, j, none⟩ = [.slice A3 M.l.length c3, .bool M.dn, .int .i64 M.fu, .int .i64 M.fa, .int .i64 M.size, .int .u64 M.fr, .int .u64 M.nx, .bool M.br][j]?) ∧ Sp.Sep w w' (row k62 62 (.slice s.2.2.1 got.length s.2.2.2) got :: box s.2.1 [.int .u64 M.nx, .string more] 62 :: [row k62 62 (.slice A6 (rk).length c6) rk, box gy [.slice A5 K.l.length c5, .bool K.dn, .int .i64 K.fu, .int .i64 K.fa, .int .i64 K.size, .int .u64 K.fr, .int .u64 K.nx, .bool K.br] 30, row k67 67 (.slice A5 (K.l).length c5) K.l, box gq [.slice A3 M.l.length c3, .bool M.dn, .int .i64 M.fu, .int .i64 M.fa, .int .i64 M.size, .int .u64 M.fr, .int .u64 M.nx, .bool M.br] 30, row k67 67 (.slice A3 (M.l).length c3) M.l, row k62 62 (.slice A4 (got).length c4) got, box gd [.slice Af (crashF R.l ks).length cf, .bool false, .int .i64 (-1), .int .i64 (-1)] 27, row k67 67 (.slice Af ((crashF R.l ks)).length cf) ((crashF R.l ks)), box gb [.slice A1 R.l.length c1, .bool R.dn, .int .i64 R.fu, .int .i64 R.fa, .int .i64 R.size, .int .u64 R.fr, .int .u64 R.nx, .bool R.br] 30, row k67 67 (.slice A1 (R.l).length c1) R.l, row k62 62 (.slice A2 (want).length c2) want])) ?_ ?_
              rotate_left
              · intro hCont
                refine two_ (i := 8) (j := 15) (Ni := some 135) (Nj := some 142) #[true, true, true, true, true, true, true, true, true, true, false, true, true, true, true, false, false, false, false, false] #[true, true, true, true, true, true, true, true, false, true, false, true, true, true, true, true, false, false, false, false] rfl rfl rfl rfl (by kernel_rfl) (by decide) (by decide) (fun K hK => ?_) (fun K hK => ?_)
                · skip
                  refine lit_step (N := some 135) (by rfl) rfl hHeld.2 [] 62 0 ?_ ?_
                  · first | (go_simp; done) | (go_simp; rfl)
                  intro g8 wr80 hS8_
                  have hS8 := row_none (d := k62) hS8_
                  refine hK.out _ _ ⟨(fun j => ((hS8.drop0)).cell (g := gq) mem3 j), (hS8.drop0)⟩ (fun hHeld => ?_)
                  clear hK K
                  refine norm_ (a' := ?_) ?_ ?_
                  rotate_left
                  · show Act.put _ (some 135) _ = _
                    simp only [Act.put, List.setIfInBounds_toArray, List.set_cons_zero, List.set_cons_succ, i64_w, i32_w]
                    rfl
                  refine two_ (i := 10) (j := 15) (Ni := some 137) (Nj := some 142) #[true, true, true, true, true, true, true, true, true, true, true, true, true, true, true, false, false, false, false, false] #[true, true, true, true, true, true, true, true, true, true, false, true, true, true, true, true, false, false, false, false] rfl rfl rfl rfl (by kernel_rfl) (by decide) (by decide) (fun K hK => ?_) (fun K hK => ?_)
                  · skip
                    refine app_rows_step k62 k62_flat (by rfl) (.tmp 135) (.tmp 136) 54 62 (.agg #[.int .u64 0, .string ⟨#[]⟩]) 24 rfl Tryz.underlying54 info62 rfl (by decide) (by decide) (.slice (some ⟨g8, 0, none⟩) 0 0) [] got A4 c4 (by first | rfl | (go_simp; done) | (go_simp; rfl)) (by first | rfl | (go_simp; done) | (go_simp; rfl)) (Sep.reads (A := A4) hS8 mem6).2.2 (fun x cs h => by obtain rfl := k62_open h; exact k62_mkM _ _ _ _) hS8 (by have := HGL.out.2; simp only [List.length_nil]; omega) ?_
                    intro A10 c10 wr101 hS10
                    simp only [List.nil_append] at hS10 ⊢
                    refine hK.out _ _ ⟨(fun j => (hS10.drop0).cell (g := gq) mem3 j), hS10.drop0⟩ (fun hHeld => ?_)
                    clear hK K
                    refine norm_ (a' := ?_) ?_ ?_
                    rotate_left
                    · show Act.put _ (some 137) _ = _
                      simp only [Act.put, List.setIfInBounds_toArray, List.set_cons_zero, List.set_cons_succ, i64_w, i32_w]
                      rfl
                    refine one_ (i := 15) (N := some 142) #[true, true, true, true, true, true, true, true, true, true, true, true, true, true, true, true, false, false, false, false] rfl rfl (by kernel_rfl) (by decide) (fun K hK => ?_)
                    refine lit_step (N := some 142) (by rfl) rfl hS10 [.int .u64 M.nx, .string more] 62 1 ?_ ?_
                    · first | (go_simp; done) | (go_simp; rfl)
                    intro g15 wr152 hS15
                    refine hK.out _ _ ⟨(fun j => (hS15.drop0.drop0).cell (g := gq) mem3 j), hS15.drop0.drop0⟩ (fun hHeld => ?_)
                    clear hK K
                    refine norm_ (a' := ?_) ?_ ?_
                    rotate_left
                    · show Act.put _ (some 142) _ = _
                      simp only [Act.put, List.setIfInBounds_toArray, List.set_cons_zero, List.set_cons_succ, i64_w, i32_w]
                      rfl
                    exact norm_ (by simp only [putAll, Act.put, List.setIfInBounds_toArray, List.set_cons_zero, List.set_cons_succ]) (hCont ⟨g8, g15, A10, c10⟩ _ ⟨(fun j => ((hS15.front1).drop0.drop0).cell (g := gq) mem3 j), hS15.front1⟩)
                  · skip
                    refine lit_step (N := some 142) (by rfl) rfl hS8 [.int .u64 M.nx, .string more] 62 1 ?_ ?_
                    · first | (go_simp; done) | (go_simp; rfl)
                    intro g15 wr151 hS15
                    refine hK.out _ _ ⟨(fun j => (hS15.drop0.drop0).cell (g := gq) mem3 j), hS15.drop0.drop0⟩ (fun hHeld => ?_)
                    clear hK K
                    refine norm_ (a' := ?_) ?_ ?_
                    rotate_left
                    · show Act.put _ (some 142) _ = _
                      simp only [Act.put, List.setIfInBounds_toArray, List.set_cons_zero, List.set_cons_succ, i64_w, i32_w]
                      rfl
                    refine one_ (i := 10) (N := some 137) #[true, true, true, true, true, true, true, true, true, true, true, true, true, true, true, true, false, false, false, false] rfl rfl (by kernel_rfl) (by decide) (fun K hK => ?_)
                    refine app_rows_step k62 k62_flat (by rfl) (.tmp 135) (.tmp 136) 54 62 (.agg #[.int .u64 0, .string ⟨#[]⟩]) 24 rfl Tryz.underlying54 info62 rfl (by decide) (by decide) (.slice (some ⟨g8, 0, none⟩) 0 0) [] got A4 c4 (by first | rfl | (go_simp; done) | (go_simp; rfl)) (by first | rfl | (go_simp; done) | (go_simp; rfl)) (Sep.reads (A := A4) hS15.front1 mem7).2.2 (fun x cs h => by obtain rfl := k62_open h; exact k62_mkM _ _ _ _) hS15.front1 (by have := HGL.out.2; simp only [List.length_nil]; omega) ?_
                    intro A10 c10 wr102 hS10
                    simp only [List.nil_append] at hS10 ⊢
                    refine hK.out _ _ ⟨(fun j => (hS10.drop0.drop0).cell (g := gq) mem3 j), hS10.drop0.drop0⟩ (fun hHeld => ?_)
                    clear hK K
                    refine norm_ (a' := ?_) ?_ ?_
                    rotate_left
                    · show Act.put _ (some 137) _ = _
                      simp only [Act.put, List.setIfInBounds_toArray, List.set_cons_zero, List.set_cons_succ, i64_w, i32_w]
                      rfl
                    exact norm_ (by simp only [putAll, Act.put, List.setIfInBounds_toArray, List.set_cons_zero, List.set_cons_succ]) (hCont ⟨g8, g15, A10, c10⟩ _ ⟨(fun j => ((hS10).drop0.drop0).cell (g := gq) mem3 j), hS10⟩)
                · skip
                  refine lit_step (N := some 142) (by rfl) rfl hHeld.2 [.int .u64 M.nx, .string more] 62 1 ?_ ?_
                  · first | (go_simp; done) | (go_simp; rfl)
                  intro g15 wr150 hS15
                  refine hK.out _ _ ⟨(fun j => (hS15.drop0).cell (g := gq) mem3 j), hS15.drop0⟩ (fun hHeld => ?_)
                  clear hK K
                  refine norm_ (a' := ?_) ?_ ?_
                  rotate_left
                  · show Act.put _ (some 142) _ = _
                    simp only [Act.put, List.setIfInBounds_toArray, List.set_cons_zero, List.set_cons_succ, i64_w, i32_w]
                    rfl
                  refine one_ (i := 8) (N := some 135) #[true, true, true, true, true, true, true, true, true, true, false, true, true, true, true, true, false, false, false, false] rfl rfl (by kernel_rfl) (by decide) (fun K hK => ?_)
                  refine lit_step (N := some 135) (by rfl) rfl hS15 [] 62 0 ?_ ?_
                  · first | (go_simp; done) | (go_simp; rfl)
                  intro g8 wr81 hS8_
                  have hS8 := row_none (d := k62) hS8_
                  refine hK.out _ _ ⟨(fun j => ((hS8.drop0.drop0)).cell (g := gq) mem3 j), (hS8.drop0.drop0)⟩ (fun hHeld => ?_)
                  clear hK K
                  refine norm_ (a' := ?_) ?_ ?_
                  rotate_left
                  · show Act.put _ (some 135) _ = _
                    simp only [Act.put, List.setIfInBounds_toArray, List.set_cons_zero, List.set_cons_succ, i64_w, i32_w]
                    rfl
                  refine one_ (i := 10) (N := some 137) #[true, true, true, true, true, true, true, true, true, true, true, true, true, true, true, true, false, false, false, false] rfl rfl (by kernel_rfl) (by decide) (fun K hK => ?_)
                  refine app_rows_step k62 k62_flat (by rfl) (.tmp 135) (.tmp 136) 54 62 (.agg #[.int .u64 0, .string ⟨#[]⟩]) 24 rfl Tryz.underlying54 info62 rfl (by decide) (by decide) (.slice (some ⟨g8, 0, none⟩) 0 0) [] got A4 c4 (by first | rfl | (go_simp; done) | (go_simp; rfl)) (by first | rfl | (go_simp; done) | (go_simp; rfl)) (Sep.reads (A := A4) hS8 mem7).2.2 (fun x cs h => by obtain rfl := k62_open h; exact k62_mkM _ _ _ _) hS8 (by have := HGL.out.2; simp only [List.length_nil]; omega) ?_
                  intro A10 c10 wr102 hS10
                  simp only [List.nil_append] at hS10 ⊢
                  refine hK.out _ _ ⟨(fun j => (hS10.drop0.drop0).cell (g := gq) mem3 j), hS10.drop0.drop0⟩ (fun hHeld => ?_)
                  clear hK K
                  refine norm_ (a' := ?_) ?_ ?_
                  rotate_left
                  · show Act.put _ (some 137) _ = _
                    simp only [Act.put, List.setIfInBounds_toArray, List.set_cons_zero, List.set_cons_succ, i64_w, i32_w]
                    rfl
                  exact norm_ (by simp only [putAll, Act.put, List.setIfInBounds_toArray, List.set_cons_zero, List.set_cons_succ]) (hCont ⟨g8, g15, A10, c10⟩ _ ⟨(fun j => ((hS10).drop0.drop0).cell (g := gq) mem3 j), hS10⟩)
              rintro ⟨g8, g15, A10, c10⟩ w18 ⟨hq18, hS18⟩
              dsimp only at hS18 ⊢
              have hHeld : (∀ j : Nat, w18.cell? ⟨gq, j, none⟩ = [.slice A3 M.l.length c3, .bool M.dn, .int .i64 M.fu, .int .i64 M.fa, .int .i64 M.size, .int .u64 M.fr, .int .u64 M.nx, .bool M.br][j]?) ∧ Sp.Sep w w18 [row k62 62 (.slice A6 (rk).length c6) rk, box gy [.slice A5 K.l.length c5, .bool K.dn, .int .i64 K.fu, .int .i64 K.fa, .int .i64 K.size, .int .u64 K.fr, .int .u64 K.nx, .bool K.br] 30, row k67 67 (.slice A5 (K.l).length c5) K.l, box gq [.slice A3 M.l.length c3, .bool M.dn, .int .i64 M.fu, .int .i64 M.fa, .int .i64 M.size, .int .u64 M.fr, .int .u64 M.nx, .bool M.br] 30, row k67 67 (.slice A3 (M.l).length c3) M.l, row k62 62 (.slice A4 (got).length c4) got, box gd [.slice Af (crashF R.l ks).length cf, .bool false, .int .i64 (-1), .int .i64 (-1)] 27, row k67 67 (.slice Af ((crashF R.l ks)).length cf) ((crashF R.l ks)), box gb [.slice A1 R.l.length c1, .bool R.dn, .int .i64 R.fu, .int .i64 R.fa, .int .i64 R.size, .int .u64 R.fr, .int .u64 R.nx, .bool R.br] 30, row k67 67 (.slice A1 (R.l).length c1) R.l, row k62 62 (.slice A2 (want).length c2) want] := ⟨hq18, hS18.drop0.drop0⟩
              refine norm_ (a' := ?_) ?_ ?_
              rotate_left
              · simp only [putAll, Act.put, List.setIfInBounds_toArray, List.set_cons_zero, List.set_cons_succ]
                rfl
              refine one_ (i := 16) (N := some 143) #[true, true, true, true, true, true, true, true, true, true, true, true, true, true, true, true, true, false, false, false] rfl rfl (by kernel_rfl) (by decide) (fun K hK => ?_)
              refine app_rows_step k62 k62_flat (by rfl) (.tmp 137) (.tmp 142) 54 62 (.agg #[.int .u64 0, .string ⟨#[]⟩]) 24 rfl Tryz.underlying54 info62 rfl (by decide) (by decide) (.slice A10 got.length c10) got [(⟨M.nx, more⟩ : S62)] (some ⟨g15, 0, none⟩) 1 (by first | rfl | (go_simp; done) | (go_simp; rfl)) (by first | rfl | (go_simp; done) | (go_simp; rfl)) (box_C62 (fun j => hS18.cell (g := g15) mem1 j)) (fun x cs h => by obtain rfl := k62_open h; exact k62_mkM _ _ _ _) hS18 (by have := HGL.out.2; simp only [List.length_singleton]; omega) ?_
              intro A16 c16 w16 hS16
              rw [HRV.out] at hS16 ⊢
              refine hK.out _ _ ⟨(fun j => (hS16.drop0.drop0).cell (g := gq) mem3 j), hS16.drop0.drop0⟩ (fun hHeld => ?_)
              clear hK K
              refine norm_ (a' := ?_) ?_ ?_
              rotate_left
              · show Act.put _ (some 143) _ = _
                simp only [Act.put, List.setIfInBounds_toArray, List.set_cons_zero, List.set_cons_succ, i64_w, i32_w]
                rfl
              refine one_ (i := 17) (N := some 144) #[true, true, true, true, true, true, true, true, true, true, true, true, true, true, true, true, true, true, false, false] rfl rfl (by kernel_rfl) (by decide) (fun K hK => ?_)
              refine goes_ Tryz.func29 (by kernel_rfl) rfl #[.slice A6 rk.length c6, .slice A16 rk.length c16] (by rfl) rfl rfl (by simp only [List.map_toArray, List.map_cons, List.map_nil]; rfl) ?_
              with_reducible refine (penstockref10_SameRecords.calls (rk.length + 1) A6 c6 rk A16 c16 rk true _ (Sep.reads (A := A6) hS16 mem2).2.2 (Sep.reads (A := A6) hS16 mem2).2.1 (Sep.reads (A := A16) hS16 mem0).2.2 (Sep.reads (A := A16) hS16 mem0).2.1 HSR.out).mono ?_
              rintro e w17 ⟨rfl, hb17⟩
              refine ⟨_, rfl, ?_⟩
              refine hK.out _ _ ⟨(fun j => ((Sep.step hS16.drop0.drop0 (Drawn0.below hb17))).cell (g := gq) mem3 j), (Sep.step hS16.drop0.drop0 (Drawn0.below hb17))⟩ (fun hHeld => ?_)
              clear hK K
              refine norm_ (a' := ?_) ?_ ?_
              rotate_left
              · show Act.put _ (some 144) _ = _
                simp only [Act.put, List.setIfInBounds_toArray, List.set_cons_zero, List.set_cons_succ, i64_w, i32_w]
                rfl
              refine pure_ (i := 18) (N := some 145) (v := ?_) (a' := ?_) #[true, true, true, true, true, true, true, true, true, true, true, true, true, true, true, true, true, true, true, false] rfl rfl (by kernel_rfl) (fun _ _ _ h => h) (Or.inl ⟨by rfl, ?_⟩) ?_ ?_
              rotate_left
              · intro w'
                go_simp
                with_reducible rfl
              rotate_left
              · simp only [Act.put, List.setIfInBounds_toArray, List.set_cons_zero, List.set_cons_succ, i64_w, i32_w]
                rfl
              refine pure_ (i := 19) (N := some 12) (v := ?_) (a' := ?_) #[true, true, true, true, true, true, true, true, true, true, true, true, true, true, true, true, true, true, true, true] rfl rfl (by kernel_rfl) (fun _ _ _ h => h) (Or.inl ⟨by rfl, ?_⟩) ?_ ?_
              rotate_left
              · intro w'
                go_simp
                with_reducible rfl
              rotate_left
              · simp only [Act.put, List.setIfInBounds_toArray, List.set_cons_zero, List.set_cons_succ, i64_w, i32_w]
                rfl
              refine done_ (by kernel_rfl) ?_
              go_wp2_with fail
              go_ret
              exact ⟨rfl, hHeld.2.below⟩
            ·
              have h64i : (64 : Int) ≤ (M.l.length : Int) := by omega
              rcases HM2.out (by omega) with he0 | he0
              · subst he0
                go_wp2_with fail
                go_ret
                exact ⟨rfl, H.out.below⟩
              · subst he0
                go_wp2_with fail
                go_ret
                exact ⟨rfl, H.out.below⟩
end Go.Proofs.YtanonhipicoigaaGreatDoor.U
