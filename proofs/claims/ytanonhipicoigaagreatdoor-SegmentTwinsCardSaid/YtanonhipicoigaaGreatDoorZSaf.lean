import Derived.Test.YtanonhipicoigaaGreatDoorZSae
import Derived.Test.YtanonhipicoigaaGreatDoorZSac
import Derived.Test.YtanonhipicoigaaGreatDoorZSad
namespace Go.Proofs.YtanonhipicoigaaGreatDoor.U
open Go.RowKit Go.Proofs.YtanonhipicoigaaGreatDoorW.PrintWords Go.Proofs.YtanonhipicoigaaGreatDoorW.PrintLast Go.Proofs.YtanonhipicoigaaGreatDoorW.PrintMore Go.Proofs.YtanonhipicoigaaGreatDoor.Sp Go.Proofs.YtanonhipicoigaaGreatDoor.SegP
set_option linter.unusedVariables false
set_option linter.unusedSimpArgs false
theorem must_yes (n : Int) (w : World) : Calls Tryz.prog 77 #[.bool true, .int .i64 n] w fun e w' => e = .returned (.tuple #[]) ∧ w' = w := by
  go_enter Tryz.func77, Tryz.ntmps77
  go_wp2
  go_end0
  exact ⟨rfl, rfl⟩
theorem must_no (n : Int) (w : World) : Calls Tryz.prog 77 #[.bool false, .int .i64 n] w fun e w' => e = .panicked [{ v := .iface 34 (.int .i64 n), recovered := false }] ∧ w' = w := by
  go_enter Tryz.func77, Tryz.ntmps77
  go_wp2
  exact ⟨rfl, rfl, rfl⟩
def nameB (n : Nat) : ByteArray := ⟨(hexN 16 n).toArray⟩
noncomputable def lastPl (l : List S67) : Option Pl := (placesF l).getLast?
noncomputable def lastNm (l : List S67) : ByteArray := match lastPl l with | none => ⟨#[]⟩ | some p => p.1.f0
/-- Where a new file is wanted. -/
def isFull (L : Lg) (k : Nat) : Prop := match lastPl L.l with | none => True | some p => L.size ≤ (p.1.f1.size : Int) ∨ 262144 < p.1.f1.size + k
noncomputable def stepC (L : Lg) (k : Nat) : Lg × Int := open Classical in if isFull L k then (chg L (createF L.l L.dn L.fu L.fa (nameB L.nx.toNat)), (createF L.l L.dn L.fu L.fa (nameB L.nx.toNat)).2.2.2.2) else (L, 0)
def stepA (L : Lg) (nm s : ByteArray) : Lg × Int := (chg L (appendF L.l L.dn L.fu L.fa nm s), (appendF L.l L.dn L.fu L.fa nm s).2.2.2.2)
def stepS (L : Lg) (nm : ByteArray) : Lg × Int := (chg L (syncF L.l L.dn L.fu L.fa nm), (syncF L.l L.dn L.fu L.fa nm).2.2.2.2)
/-- What is put behind, once the file is there. -/
noncomputable def putDo (L : Lg) (s : ByteArray) : Lg × Int :=
  if (stepA L (lastNm L.l) s).2 = 0 then
    if (stepS (stepA L (lastNm L.l) s).1 (lastNm L.l)).2 = 0 then ({ (stepS (stepA L (lastNm L.l) s).1 (lastNm L.l)).1 with nx := L.nx + 1 }, 0)
    else stepS (stepA L (lastNm L.l) s).1 (lastNm L.l)
  else stepA L (lastNm L.l) s
/-- What Append's closure does with a log. -/
noncomputable def appendDo (L : Lg) (d : ByteArray) : Lg × Int :=
  if L.br = true then (L, 6)
  else if 65536 < d.size then (L, 4)
  else if 4611686018427387904 ≤ L.nx then (L, 2)
  else if (stepC L (frameF L.nx d).size).2 = 0 then putDo (stepC L (frameF L.nx d).size).1 (frameF L.nx d)
  else stepC L (frameF L.nx d).size
theorem frameF_size (n : Nat) (d : ByteArray) : (frameF (n : Int) d).size = 16 + d.size := by
  rw [← byt_length, frame_bytes, frame_length, byt_length]
theorem right_nms {l : List S67} (h : rightF l = true) : ∀ x ∈ l, x.f0.size ≤ 65536 := fun x hx => by
  have h2 := (((right_iff l).1 h).2.1 x hx).1
  omega
theorem changed_ok {l : List S67} {dn : Bool} {fu fa : Int} {s : ByteArray} {wr : Bool} {rf : Int → Bool → Int} {df : Int → List S67} (h : (changedF l dn fu fa s wr rf df).2.2.2.2 = 0) :
    rightF l = true ∧ dn = false ∧ rf (bsOf l s) (isAt l s (bsOf l s)) = 0 ∧ (changedF l dn fu fa s wr rf df).1 = df (bsOf l s) := by
  unfold changedF at h ⊢
  split at h
  · rename_i hr
    split at h
    · cases h
    · rename_i hd
      split at h
      · rename_i hrf
        split at h
        · cases h
        · rename_i hf
          split at h
          · cases h
          · rename_i hu
            refine ⟨hr, by simpa using hd, hrf, ?_⟩
            rw [if_pos hr, if_neg hd, if_pos hrf, if_neg hf, if_neg hu]
      · rename_i hrf
        exact absurd h hrf
  · cases h
theorem create_ok {l : List S67} {dn : Bool} {fu fa : Int} {n : Nat} {D : DiskR} (hD : D = createF l dn fu fa (nameB n)) (hz : D.2.2.2.2 = 0) (hn : n ≤ most) : rightF D.1 = true ∧ placesF D.1 ≠ [] ∧ True := by
  subst hD
  obtain ⟨h1, h2, h3, h4⟩ := changed_ok hz
  have h5 : (createF l dn fu fa (nameB n)).1 = l.take (bsOf l (nameB n)) ++ [(⟨nameB n, ⟨#[]⟩, 0⟩ : S67)] ++ l.drop (bsOf l (nameB n)) := by
    rw [createF, h4]
    simp
  rw [h5]
  refine ⟨(good_create h1 h3).1, fun h => ?_, trivial⟩
  have hm : ((⟨nameB n, ⟨#[]⟩, 0⟩ : S67), n) ∈ placesF (l.take (bsOf l (nameB n)) ++ [(⟨nameB n, ⟨#[]⟩, 0⟩ : S67)] ++ l.drop (bsOf l (nameB n))) := by
    refine List.mem_filterMap.2 ⟨_, (mem_new _ _ _).2 (.inl rfl), ?_⟩
    have : numOf (nameB n) = some n := numOf_iff.2 ⟨hn, (byt_mk _).symm⟩
    show (numOf (nameB n)).map _ = _
    rw [this]
    rfl
  rw [h] at hm
  cases hm
set_option maxHeartbeats 8000000 in
set_option maxRecDepth 100000 in
theorem append_do (b : World) (gl g0 g1 gv : Nat) (l : List S67) (dn : Bool) (fu fa size fr : Int) (n : Nat) (br : Bool) (d : ByteArray) (A0 : Option Addr) (c0 : Nat) (hok : rightF l = true) (hG : Gl b) (hn : n < 18446744073709551616) (hs0 : 1 ≤ size) (hs1 : size ≤ 262144) :
    DoesL b gl 76 #[.pointer (some ⟨g0, 0, none⟩), .pointer (some ⟨g1, 0, none⟩), .pointer (some ⟨gv, 0, none⟩)] ⟨l, dn, fu, fa, size, fr, (n : Int), br⟩ [box g0 [.slice A0 l.length c0, .bool dn, .int .i64 fu, .int .i64 fa, .int .i64 size, .int .u64 fr, .int .u64 (n : Int), .bool br] 30, box g1 [.string d] 9, box gv [.pointer (some ⟨gl, 0, none⟩)] 131] (appendDo ⟨l, dn, fu, fa, size, fr, (n : Int), br⟩ d).1 (appendDo ⟨l, dn, fu, fa, size, fr, (n : Int), br⟩ d).2 := by
  intro A c w ts H0
  have HOK := Aside0.mk hok
  have HG := Aside0.mk hG
  have hlen : l.length ≤ 64 := right_len hok
  clear hok hG
  obtain ⟨R, hR⟩ : ∃ R, R = appendDo ⟨l, dn, fu, fa, size, fr, (n : Int), br⟩ d := ⟨_, rfl⟩
  rw [← hR]
  have HR := Aside0.mk hR
  clear hR
  have H : Aside0 (Sep b w (box gl [.slice A l.length c, .bool dn, .int .i64 fu, .int .i64 fa, .int .i64 size, .int .u64 fr, .int .u64 (n : Int), .bool br] 134 :: row k67 67 (.slice A (l).length c) l :: box g0 [.slice A0 l.length c0, .bool dn, .int .i64 fu, .int .i64 fa, .int .i64 size, .int .u64 fr, .int .u64 (n : Int), .bool br] 30 :: box g1 [.string d] 9 :: box gv [.pointer (some ⟨gl, 0, none⟩)] 131 :: ts)) := H0
  clear H0
  have c_l := H.out.cell (g := gl) mem0
  have z_l := H.out.frozen (g := gl) mem0
  have c_m := H.out.cell (g := g0) mem2
  have c_t := H.out.cell (g := g1) mem3
  have c_v := H.out.cell (g := gv) mem4
  go_enter Tryz.func76, Tryz.ntmps76
  cases br with
  | true =>
    go_wp2_with fail
    refine (must_no 6 _).mono ?_
    rintro e w_ ⟨rfl, rfl⟩
    have hV : R = (⟨l, dn, fu, fa, size, fr, (n : Int), true⟩, 6) := by rw [HR.out, appendDo, if_pos rfl]
    show _ ∧ _
    rw [hV]
    exact ⟨rfl, .inr ⟨show (6 : Int) ≠ 0 by decide, rfl⟩, A, c, H⟩
  | false =>
    go_wp2_with fail
    refine (must_yes 6 _).mono ?_
    rintro e w_ ⟨rfl, rfl⟩
    by_cases hd : 65536 < d.size
    ·
      have hq : decide ((d.size : Int) ≤ 65536) = false := decide_eq_false (by omega)
      go_wp2_with fail
      try simp only [hq]
      refine (must_no 4 _).mono ?_
      rintro e w_ ⟨rfl, rfl⟩
      have hV : R = (⟨l, dn, fu, fa, size, fr, (n : Int), false⟩, 4) := by rw [HR.out, appendDo, if_neg (by simp), if_pos hd]
      show _ ∧ _
      rw [hV]
      exact ⟨rfl, .inr ⟨show (4 : Int) ≠ 0 by decide, rfl⟩, A, c, H⟩
    ·
      have hq : decide ((d.size : Int) ≤ 65536) = true := decide_eq_true (by omega)
      go_wp2_with fail
      try simp only [hq]
      refine (must_yes 4 _).mono ?_
      rintro e w_ ⟨rfl, rfl⟩
      by_cases hx : 4611686018427387904 ≤ n
      ·
        have hq2 : decide ((n : Int) < 4611686018427387904) = false := decide_eq_false (by omega)
        go_wp2_with fail
        try simp only [hq2]
        refine (must_no 2 _).mono ?_
        rintro e w_ ⟨rfl, rfl⟩
        have hV : R = (⟨l, dn, fu, fa, size, fr, (n : Int), false⟩, 2) := by rw [HR.out, appendDo, if_neg (by simp), if_neg hd, if_pos (by show (4611686018427387904 : Int) ≤ (n : Int); omega)]
        show _ ∧ _
        rw [hV]
        exact ⟨rfl, .inr ⟨show (2 : Int) ≠ 0 by decide, rfl⟩, A, c, H⟩
      ·
        have hq2 : decide ((n : Int) < 4611686018427387904) = true := decide_eq_true (by omega)
        go_wp2_with fail
        try simp only [hq2]
        refine (must_yes 2 _).mono ?_
        rintro e w_ ⟨rfl, rfl⟩
        obtain ⟨s, hs⟩ : ∃ s, s = frameF (n : Int) d := ⟨_, rfl⟩
        have FM := Aside0.mk (fun w => hs ▸ frame_any (n : Int) d w (by omega) (by omega) (by omega))
        have hss : s.size = 16 + d.size := by rw [hs, frameF_size]
        have hRV : R = (if (stepC ⟨l, dn, fu, fa, size, fr, (n : Int), false⟩ s.size).2 = 0 then putDo (stepC ⟨l, dn, fu, fa, size, fr, (n : Int), false⟩ s.size).1 s else stepC ⟨l, dn, fu, fa, size, fr, (n : Int), false⟩ s.size) := by
          rw [HR.out, appendDo, if_neg (by simp), if_neg hd, if_neg (by show ¬ (4611686018427387904 : Int) ≤ (n : Int); omega), ← hs]
        have HRV := Aside0.mk hRV
        clear HR hs hRV hq hq2
        go_wp2_with fail
        refine (FM.out _).mono ?_
        rintro e wd1 ⟨rfl, hb_⟩
        have n_ : Aside0 (Sep b wd1 (box gl [.slice A l.length c, .bool dn, .int .i64 fu, .int .i64 fa, .int .i64 size, .int .u64 fr, .int .u64 (n : Int), .bool false] 134 :: row k67 67 (.slice A (l).length c) l :: box g0 [.slice A0 l.length c0, .bool dn, .int .i64 fu, .int .i64 fa, .int .i64 size, .int .u64 fr, .int .u64 (n : Int), .bool false] 30 :: box g1 [.string d] 9 :: box gv [.pointer (some ⟨gl, 0, none⟩)] 131 :: ts)) := ⟨H.out.step hb_⟩
        clear H c_l z_l c_m c_t c_v
        have H := n_
        clear n_
        have c_l := H.out.cell (g := gl) mem0
        have z_l := H.out.frozen (g := gl) mem0
        have c_m := H.out.cell (g := g0) mem2
        have c_t := H.out.cell (g := g1) mem3
        have c_v := H.out.cell (g := gv) mem4
        clear hb_
        go_wp2_with fail
        obtain ⟨ps, hps⟩ : ∃ ps, ps = placesF l := ⟨_, rfl⟩
        have HPS := Aside0.mk hps
        have PA := Aside0.mk (fun A c w hr hc hG => places_any A c l dn fu fa w hr hc hlen (right_nms HOK.out) hG)
        rw [← hps] at PA
        clear hps
        refine ((PA.out A c _ (H.out.reads mem1).2.2 (H.out.reads mem1).2.1 (HG.out.below H.out.below)).mono ?_)
        rintro e wd2 ⟨v_, rfl, ho_, hb_⟩
        obtain ⟨Aq, cq, eo_⟩ := Kd.R_slice ho_
        subst eo_
        have n_ : Aside0 (Sep b wd2 (row k139 139 (.slice Aq (ps).length cq) ps :: box gl [.slice A l.length c, .bool dn, .int .i64 fu, .int .i64 fa, .int .i64 size, .int .u64 fr, .int .u64 (n : Int), .bool false] 134 :: row k67 67 (.slice A (l).length c) l :: box g0 [.slice A0 l.length c0, .bool dn, .int .i64 fu, .int .i64 fa, .int .i64 size, .int .u64 fr, .int .u64 (n : Int), .bool false] 30 :: box g1 [.string d] 9 :: box gv [.pointer (some ⟨gl, 0, none⟩)] 131 :: ts)) := ⟨Sep.push_row H.out hb_ ho_ k139_flat⟩
        clear H c_l z_l c_m c_t c_v
        have H := n_
        clear n_
        have c_l := H.out.cell (g := gl) mem1
        have z_l := H.out.frozen (g := gl) mem1
        have c_m := H.out.cell (g := g0) mem3
        have c_t := H.out.cell (g := g1) mem4
        have c_v := H.out.cell (g := gv) mem5
        clear ho_ hb_
        obtain ⟨full, hfu⟩ : ∃ full : Bool, (full = true ↔ isFull ⟨l, dn, fu, fa, size, fr, (n : Int), false⟩ s.size) := by
          by_cases h : isFull ⟨l, dn, fu, fa, size, fr, (n : Int), false⟩ s.size
          · exact ⟨true, by simp [h]⟩
          · exact ⟨false, by simp [h]⟩
        have HFU := Aside0.mk hfu
        clear hfu
        have hlp : lastPl l = ps.getLast? := by rw [lastPl, HPS.out]
        have HLP := Aside0.mk hlp
        have hs5 : s.size ≤ 65552 := by omega
        clear hlp hss
        go_upto_region 6 with fail
        go_cut [59] (fun v59 wx => v59 = .bool full ∧ Aside0 (Sep b wx (row k139 139 (.slice Aq (ps).length cq) ps :: box gl [.slice A l.length c, .bool dn, .int .i64 fu, .int .i64 fa, .int .i64 size, .int .u64 fr, .int .u64 (n : Int), .bool false] 134 :: row k67 67 (.slice A (l).length c) l :: box g0 [.slice A0 l.length c0, .bool dn, .int .i64 fu, .int .i64 fa, .int .i64 size, .int .u64 fr, .int .u64 (n : Int), .bool false] 30 :: box g1 [.string d] 9 :: box gv [.pointer (some ⟨gl, 0, none⟩)] 131 :: ts)))
        case first =>
          cases hgl : ps.getLast? with
          | none =>
            have q1 : ((ps.length : Int) == 0) = true := by rw [List.getLast?_eq_none_iff.1 hgl]; rfl
            have hf : full = true := HFU.out.2 (by rw [isFull, HLP.out, hgl]; trivial)
            subst hf
            clear hgl
            go_quiet (fail)
            go_wp2_with fail
            go_meet
            exact ⟨rfl, ⟨Sep.drewN H.out _⟩⟩
          | some p =>
            have hgp : ps[ps.length - 1]? = some p := by rw [← List.getLast?_eq_getElem?]; exact hgl
            have hp1 : 0 < ps.length := by
              cases ps with
              | nil => cases hgl
              | cons _ _ => simp
            have q1 : ((ps.length : Int) == 0) = false := by
              rw [beq_eq_false_iff_ne]
              omega
            obtain ⟨aq, e1⟩ := row139 (H.out.reads (A := Aq) mem0).2.2 (by omega)
            subst e1
            obtain ⟨h0, h1, h2, h3⟩ := at139 (H.out.reads (A := some aq) mem0).2.2 hgp
            have HISF : Aside0 (isFull ⟨l, dn, fu, fa, size, fr, (n : Int), false⟩ s.size ↔ (size ≤ (p.1.f1.size : Int) ∨ 262144 < p.1.f1.size + s.size)) := ⟨by rw [isFull, HLP.out, hgl]⟩
            have hps1 : p.1.f1.size ≤ 262144 := (places_size HOK.out HPS.out (List.mem_of_getElem? hgp)).1
            clear hgl hgp
            have hpl : ps.length ≤ 64 := by
              have := places_len l
              rw [HPS.out]
              omega
            have hp2 : (0 : Int) ≤ (ps.length : Int) - 1 := by omega
            have hp3 : (ps.length : Int) - 1 < (ps.length : Int) := by omega
            have hpw : IntKind.i64.wrap ((ps.length : Int) - 1) = (ps.length : Int) - 1 := by rw [IntKind.wrap_i64]; omega
            by_cases hb1 : size ≤ (p.1.f1.size : Int)
            · have hf : full = true := HFU.out.2 (HISF.out.2 (.inl hb1))
              subst hf
              have q2 := decide_eq_true hb1
              go_quiet (fail)
              go_wp2_with fail
              go_meet
              exact ⟨rfl, ⟨Sep.drewN H.out _⟩⟩
            · have q2 := decide_eq_false hb1
              have hpw2 : IntKind.i64.wrap ((p.1.f1.size : Int) + (s.size : Int)) = (p.1.f1.size : Int) + (s.size : Int) := by rw [IntKind.wrap_i64]; omega
              by_cases hb2 : 262144 < p.1.f1.size + s.size
              · have hf : full = true := HFU.out.2 (HISF.out.2 (.inr hb2))
                subst hf
                have q3 : decide ((262144 : Int) < (p.1.f1.size : Int) + (s.size : Int)) = true := decide_eq_true (by omega)
                go_quiet (fail)
                go_wp2_with fail
                go_meet
                exact ⟨rfl, ⟨Sep.drewN H.out _⟩⟩
              · have hf : full = false := by
                  cases full with
                  | false => rfl
                  | true =>
                    rcases HISF.out.1 (HFU.out.1 rfl) with h | h
                    · exact absurd h hb1
                    · exact absurd h hb2
                subst hf
                have q3 : decide ((262144 : Int) < (p.1.f1.size : Int) + (s.size : Int)) = false := decide_eq_false (by omega)
                go_quiet (fail)
                go_wp2_with fail
                go_meet
                exact ⟨rfl, ⟨Sep.drewN H.out _⟩⟩
        case rest =>
          obtain ⟨rfl, n_⟩ := hcut
          clear H c_l z_l c_m c_t c_v
          have H := n_
          clear n_
          have c_l := H.out.cell (g := gl) mem1
          have c_m := H.out.cell (g := g0) mem3
          have c_t := H.out.cell (g := g1) mem4
          have c_v := H.out.cell (g := gv) mem5
          go_upto_if 59 with fail
          go_cut [4] (fun v4 wx => ∃ (L1 : Lg) (A1 Aq1 : Option Addr) (c1 cq1 : Nat), v4 = .slice Aq1 (placesF L1.l).length cq1 ∧ Aside0 (placesF L1.l ≠ []) ∧ Aside0 (rightF L1.l = true) ∧ Aside0 (stepC ⟨l, dn, fu, fa, size, fr, (n : Int), false⟩ s.size = (L1, 0)) ∧ L1.nx = (n : Int) ∧ Aside0 (Sep b wx (row k139 139 (.slice Aq1 ((placesF L1.l)).length cq1) ((placesF L1.l)) :: box gl [.slice A1 L1.l.length c1, .bool L1.dn, .int .i64 L1.fu, .int .i64 L1.fa, .int .i64 L1.size, .int .u64 L1.fr, .int .u64 L1.nx, .bool L1.br] 134 :: row k67 67 (.slice A1 (L1.l).length c1) L1.l :: box g0 [.slice A0 l.length c0, .bool dn, .int .i64 fu, .int .i64 fa, .int .i64 size, .int .u64 fr, .int .u64 (n : Int), .bool false] 30 :: box g1 [.string d] 9 :: box gv [.pointer (some ⟨gl, 0, none⟩)] 131 :: ts)))
          case first =>
            cases full with
            | false =>
              have hSC : stepC ⟨l, dn, fu, fa, size, fr, (n : Int), false⟩ s.size = (⟨l, dn, fu, fa, size, fr, (n : Int), false⟩, 0) := by rw [stepC, if_neg (fun h => by have := HFU.out.2 h; cases this)]
              have hne : ps ≠ [] := by
                intro h
                have := HFU.out.2 (by rw [isFull, HLP.out, h]; trivial)
                cases this
              go_wp2_with fail
              go_meet
              have hne2 : placesF l ≠ [] := by rw [← HPS.out]; exact hne
              have H2 := H.out
              rw [HPS.out] at H2
              refine ⟨⟨l, dn, fu, fa, size, fr, (n : Int), false⟩, A, Aq, c, cq, ?_, ⟨hne2⟩, HOK, ⟨hSC⟩, rfl, ⟨H2⟩⟩
              rw [HPS.out]
            | true =>
              obtain ⟨D, hD⟩ : ∃ D, D = createF l dn fu fa (nameB n) := ⟨_, rfl⟩
              have HD := Aside0.mk hD
              have hSC : stepC ⟨l, dn, fu, fa, size, fr, (n : Int), false⟩ s.size = (chg ⟨l, dn, fu, fa, size, fr, (n : Int), false⟩ D, D.2.2.2.2) := by rw [stepC, if_pos (HFU.out.1 rfl), hD]; simp
              have HSC := Aside0.mk hSC
              clear hD hSC
              go_upto_region 7 with fail
              refine start_ (n := 13) (S := fun w' => (∀ j : Nat, w'.cell? ⟨gv, j, none⟩ = [.pointer (some ⟨gl, 0, none⟩)][j]?) ∧ (∀ j : Nat, w'.cell? ⟨gl, j, none⟩ = [.slice A l.length c, .bool dn, .int .i64 fu, .int .i64 fa, .int .i64 size, .int .u64 fr, .int .u64 (n : Int), .bool false][j]?) ∧ (∀ j : Nat, w'.cell? ⟨g0, j, none⟩ = [.slice A0 l.length c0, .bool dn, .int .i64 fu, .int .i64 fa, .int .i64 size, .int .u64 fr, .int .u64 (n : Int), .bool false][j]?) ∧ Sp.Sep b w' (row k139 139 (.slice Aq (ps).length cq) ps :: box gl [.slice A l.length c, .bool dn, .int .i64 fu, .int .i64 fa, .int .i64 size, .int .u64 fr, .int .u64 (n : Int), .bool false] 134 :: row k67 67 (.slice A (l).length c) l :: box g0 [.slice A0 l.length c0, .bool dn, .int .i64 fu, .int .i64 fa, .int .i64 size, .int .u64 fr, .int .u64 (n : Int), .bool false] 30 :: box g1 [.string d] 9 :: box gv [.pointer (some ⟨gl, 0, none⟩)] 131 :: ts)) (ds := [12]) #[false, false, false, false, false, false, false, false, false, false, false, false, false] (by kernel_rfl) rfl rfl ⟨(fun j => ((Sep.drew H.out)).cell (g := gv) mem5 j), (fun j => ((Sep.drew H.out)).cell (g := gl) mem1 j), (fun j => ((Sep.drew H.out)).cell (g := g0) mem3 j), (Sep.drew H.out)⟩ (fun hHeld => ?_)
              refine pure_ (i := 6) (N := some 66) (v := ?_) (a' := ?_) #[false, false, false, false, false, false, true, false, false, false, false, false, false] rfl rfl (by kernel_rfl) (fun _ _ _ h => h) (Or.inl ⟨by rfl, ?_⟩) ?_ ?_
              rotate_left
              · intro w'
                go_simp
                with_reducible rfl
              rotate_left
              · simp only [Act.put, List.setIfInBounds_toArray, List.set_cons_zero, List.set_cons_succ, i64_w, i32_w]
                rfl
              refine take_ (i := 0) (N := some 60) (v := ?_) (a' := ?_) #[true, false, false, false, false, false, true, false, false, false, false, false, false] rfl rfl (by kernel_rfl) (fun _ _ _ h => h) (Or.inl ⟨by rfl, ?_⟩) hHeld ?_ ?_
              rotate_left
              · rintro w' ⟨s0, s1, s2, s3⟩
                go_simp
                with_reducible rfl
              rotate_left
              · simp only [Act.put, List.setIfInBounds_toArray, List.set_cons_zero, List.set_cons_succ, i64_w, i32_w]
                rfl
              refine take_ (i := 1) (N := some 61) (v := ?_) (a' := ?_) #[true, true, false, false, false, false, true, false, false, false, false, false, false] rfl rfl (by kernel_rfl) (fun _ _ _ h => h) (Or.inl ⟨by rfl, ?_⟩) hHeld ?_ ?_
              rotate_left
              · rintro w' ⟨s0, s1, s2, s3⟩
                go_simp
                with_reducible rfl
              rotate_left
              · simp only [Act.put, List.setIfInBounds_toArray, List.set_cons_zero, List.set_cons_succ, i64_w, i32_w]
                rfl
              refine pure_ (i := 2) (N := some 62) (v := ?_) (a' := ?_) #[true, true, true, false, false, false, true, false, false, false, false, false, false] rfl rfl (by kernel_rfl) (fun _ _ _ h => h) (Or.inl ⟨by rfl, ?_⟩) ?_ ?_
              rotate_left
              · intro w'
                go_simp
                with_reducible rfl
              rotate_left
              · simp only [Act.put, List.setIfInBounds_toArray, List.set_cons_zero, List.set_cons_succ, i64_w, i32_w]
                rfl
              refine pure_ (i := 3) (N := some 63) (v := ?_) (a' := ?_) #[true, true, true, true, false, false, true, false, false, false, false, false, false] rfl rfl (by kernel_rfl) (fun _ _ _ h => h) (Or.inl ⟨by rfl, ?_⟩) ?_ ?_
              rotate_left
              · intro w'
                go_simp
                with_reducible rfl
              rotate_left
              · simp only [Act.put, List.setIfInBounds_toArray, List.set_cons_zero, List.set_cons_succ, i64_w, i32_w]
                rfl
              refine pure_ (i := 4) (N := some 64) (v := ?_) (a' := ?_) #[true, true, true, true, true, false, true, false, false, false, false, false, false] rfl rfl (by kernel_rfl) (fun _ _ _ h => h) (Or.inl ⟨by rfl, ?_⟩) ?_ ?_
              rotate_left
              · intro w'
                go_simp
                with_reducible rfl
              rotate_left
              · simp only [Act.put, List.setIfInBounds_toArray, List.set_cons_zero, List.set_cons_succ, i64_w, i32_w]
                rfl
              refine take_ (i := 5) (N := some 65) (v := ?_) (a' := ?_) #[true, true, true, true, true, true, true, false, false, false, false, false, false] rfl rfl (by kernel_rfl) (fun _ _ _ h => h) (Or.inl ⟨by rfl, ?_⟩) hHeld ?_ ?_
              rotate_left
              · rintro w' ⟨s0, s1, s2, s3⟩
                go_simp
                with_reducible rfl
              rotate_left
              · simp only [Act.put, List.setIfInBounds_toArray, List.set_cons_zero, List.set_cons_succ, i64_w, i32_w]
                rfl
              refine take_ (i := 7) (N := some 67) (v := ?_) (a' := ?_) #[true, true, true, true, true, true, true, true, false, false, false, false, false] rfl rfl (by kernel_rfl) (fun _ _ _ h => h) (Or.inl ⟨by rfl, ?_⟩) hHeld ?_ ?_
              rotate_left
              · rintro w' ⟨s0, s1, s2, s3⟩
                go_simp
                with_reducible rfl
              rotate_left
              · simp only [Act.put, List.setIfInBounds_toArray, List.set_cons_zero, List.set_cons_succ, i64_w, i32_w]
                rfl
              refine one_ (i := 8) (N := some 68) #[true, true, true, true, true, true, true, true, true, false, false, false, false] rfl rfl (by kernel_rfl) (by decide) (fun K hK => ?_)
              refine goes_ Tryz.func81 (by kernel_rfl) rfl #[.int .u64 (n : Int)] (by rfl) rfl rfl (by simp only [List.map_toArray, List.map_cons, List.map_nil]; rfl) ?_
              with_reducible refine (name_any n _ hn (HG.out.below (Sep.below hHeld.2.2.2))).mono ?_
              rintro e w3 ⟨s_, rfl, hb_, hs_⟩
              have e_s : s_ = nameB n := byt_inj (hs_.trans (byt_mk _).symm)
              subst e_s
              refine ⟨_, rfl, ?_⟩
              refine hK.out _ _ ⟨(fun j => ((Sep.step hHeld.2.2.2 hb_)).cell (g := gv) mem5 j), (fun j => ((Sep.step hHeld.2.2.2 hb_)).cell (g := gl) mem1 j), (fun j => ((Sep.step hHeld.2.2.2 hb_)).cell (g := g0) mem3 j), (Sep.step hHeld.2.2.2 hb_)⟩ (fun hHeld => ?_)
              clear hK K
              refine norm_ (a' := ?_) ?_ ?_
              rotate_left
              · show Act.put _ (some 68) _ = _
                simp only [Act.put, List.setIfInBounds_toArray, List.set_cons_zero, List.set_cons_succ, i64_w, i32_w]
                rfl
              refine one_ (i := 9) (N := some 69) #[true, true, true, true, true, true, true, true, true, true, false, false, false] rfl rfl (by kernel_rfl) (by decide) (fun K hK => ?_)
              refine goes_ Tryz.func80 (by kernel_rfl) rfl #[.agg #[.slice A l.length c, .bool dn, .int .i64 fu, .int .i64 fa], .string (nameB n)] (by rfl) rfl rfl (by simp only [List.map_toArray, List.map_cons, List.map_nil]; rfl) ?_
              with_reducible refine (disk_Create.calls A c l dn fu fa (nameB n) D.1 D.2.1 D.2.2.1 D.2.2.2.1 D.2.2.2.2 _ (Sep.reads hHeld.2.2.2 mem2).2.2 (Sep.reads hHeld.2.2.2 mem2).2.1 (by rw [disk_Create_eq, ← HD.out])).mono ?_
              rintro e w5 ⟨v_, rfl, ho_, hb5_⟩
              obtain ⟨A3, c3, eo_⟩ := Kd.R_slice ho_
              subst eo_
              have HN3 := Aside0.mk (Sep.push_row hHeld.2.2.2 hb5_ ho_ k67_flat)
              refine ⟨_, rfl, ?_⟩
              refine hK.out _ _ ⟨(fun j => ((Sep.step hHeld.2.2.2 hb5_)).cell (g := gv) mem5 j), (fun j => ((Sep.step hHeld.2.2.2 hb5_)).cell (g := gl) mem1 j), (fun j => ((Sep.step hHeld.2.2.2 hb5_)).cell (g := g0) mem3 j), (Sep.step hHeld.2.2.2 hb5_)⟩ (fun hHeld => ?_)
              clear hK K
              refine norm_ (a' := ?_) ?_ ?_
              rotate_left
              · show Act.put _ (some 69) _ = _
                simp only [Act.put, List.setIfInBounds_toArray, List.set_cons_zero, List.set_cons_succ, i64_w, i32_w]
                rfl
              refine pure_ (i := 10) (N := some 70) (v := ?_) (a' := ?_) #[true, true, true, true, true, true, true, true, true, true, true, false, false] rfl rfl (by kernel_rfl) (fun _ _ _ h => h) (Or.inl ⟨by rfl, ?_⟩) ?_ ?_
              rotate_left
              · intro w'
                go_simp
                with_reducible rfl
              rotate_left
              · simp only [Act.put, List.setIfInBounds_toArray, List.set_cons_zero, List.set_cons_succ, i64_w, i32_w]
                rfl
              refine pure_ (i := 11) (N := some 71) (v := ?_) (a' := ?_) #[true, true, true, true, true, true, true, true, true, true, true, true, false] rfl rfl (by kernel_rfl) (fun _ _ _ h => h) (Or.inl ⟨by rfl, ?_⟩) ?_ ?_
              rotate_left
              · intro w'
                go_simp
                with_reducible rfl
              rotate_left
              · simp only [Act.put, List.setIfInBounds_toArray, List.set_cons_zero, List.set_cons_succ, i64_w, i32_w]
                rfl
              refine last_ (i := 12) (N := some 72) #[true, true, true, true, true, true, true, true, true, true, true, true, true] rfl rfl (by kernel_rfl) (by decide) (fun K hK => ?_)
              refine goesE_ Tryz.func72 (by kernel_rfl) rfl #[.pointer (some ⟨gl, 0, none⟩), .agg #[.slice A3 D.1.length c3, .bool D.2.1, .int .i64 D.2.2.1, .int .i64 D.2.2.2.1], .int .i64 D.2.2.2.2] (by rfl) rfl rfl (by simp only [List.map_toArray, List.map_cons, List.map_nil]; rfl) ?_
              refine (change_any gl A c ⟨l, dn, fu, fa, size, fr, (n : Int), false⟩ A3 c3 D (rs := rowF A3 c3 D.1 :: (row k139 139 (.slice Aq (ps).length cq) ps :: row k67 67 (.slice A (l).length c) l :: box g0 [.slice A0 l.length c0, .bool dn, .int .i64 fu, .int .i64 fa, .int .i64 size, .int .u64 fr, .int .u64 (n : Int), .bool false] 30 :: box g1 [.string d] 9 :: box gv [.pointer (some ⟨gl, 0, none⟩)] 131 :: ts)) ⟨HN3.out.front2⟩).mono ?_
              rintro e w6 ⟨hE, H4⟩
              rcases hE with ⟨hz, rfl⟩ | ⟨hnz, rfl⟩
              rotate_left
              · refine .inr ⟨_, rfl, ?_⟩
                have hV : R = (chg ⟨l, dn, fu, fa, size, fr, (n : Int), false⟩ D, D.2.2.2.2) := by rw [HRV.out, HSC.out, if_neg hnz]
                show _ ∧ _
                rw [hV]
                exact ⟨rfl, .inr ⟨hnz, rfl⟩, A3, c3, ⟨(Sep.drop2 (Sep.drop3 H4.out))⟩⟩
              refine .inl ⟨_, rfl, ?_⟩
              refine hK.out _ _ ?_
              clear hK K
              refine norm_ (a' := ?_) ?_ ?_
              rotate_left
              · show Act.put _ (some 72) _ = _
                simp only [Act.put, List.setIfInBounds_toArray, List.set_cons_zero, List.set_cons_succ, i64_w, i32_w]
                rfl
              refine done_ (by kernel_rfl) ?_
              clear c_l c_m c_t c_v H
              have H : Aside0 (Sep b w6 (box gl [.slice A3 D.1.length c3, .bool D.2.1, .int .i64 D.2.2.1, .int .i64 D.2.2.2.1, .int .i64 size, .int .u64 fr, .int .u64 (n : Int), .bool (if D.2.2.2.2 = 0 then false else true)] 134 :: row k67 67 (.slice A3 (D.1).length c3) D.1 :: box g0 [.slice A0 l.length c0, .bool dn, .int .i64 fu, .int .i64 fa, .int .i64 size, .int .u64 fr, .int .u64 (n : Int), .bool false] 30 :: box g1 [.string d] 9 :: box gv [.pointer (some ⟨gl, 0, none⟩)] 131 :: ts)) := ⟨(Sep.drop2 (Sep.drop3 H4.out))⟩
              clear H4 HN3
              have c_l := H.out.cell (g := gl) mem0
              have c_m := H.out.cell (g := g0) mem2
              have c_t := H.out.cell (g := g1) mem3
              have c_v := H.out.cell (g := gv) mem4
              obtain ⟨hc1, hc2, hc3⟩ := create_ok (l := l) (dn := dn) (fu := fu) (fa := fa) (n := n) (D := D) HD.out hz (by unfold most; omega)
              have HOK1 := Aside0.mk hc1
              have HNE1 := Aside0.mk hc2
              have hlen1 : D.1.length ≤ 64 := right_len hc1
              clear hc1 hc2 hc3
              go_wp2_with fail
              refine ((places_any A3 c3 D.1 D.2.1 D.2.2.1 D.2.2.2.1 _ (H.out.reads mem1).2.2 (H.out.reads mem1).2.1 hlen1 (right_nms HOK1.out) (HG.out.below H.out.below)).mono ?_)
              rintro e wd3 ⟨v_, rfl, ho_, hb_⟩
              obtain ⟨Aq, cq, eo_⟩ := Kd.R_slice ho_
              subst eo_
              have n_ : Aside0 (Sep b wd3 (row k139 139 (.slice Aq ((placesF D.1)).length cq) ((placesF D.1)) :: box gl [.slice A3 D.1.length c3, .bool D.2.1, .int .i64 D.2.2.1, .int .i64 D.2.2.2.1, .int .i64 size, .int .u64 fr, .int .u64 (n : Int), .bool (if D.2.2.2.2 = 0 then false else true)] 134 :: row k67 67 (.slice A3 (D.1).length c3) D.1 :: box g0 [.slice A0 l.length c0, .bool dn, .int .i64 fu, .int .i64 fa, .int .i64 size, .int .u64 fr, .int .u64 (n : Int), .bool false] 30 :: box g1 [.string d] 9 :: box gv [.pointer (some ⟨gl, 0, none⟩)] 131 :: ts)) := ⟨Sep.push_row H.out hb_ ho_ k139_flat⟩
              clear H c_l c_m c_t c_v
              have H := n_
              clear n_
              have c_l := H.out.cell (g := gl) mem1
              have c_m := H.out.cell (g := g0) mem3
              have c_t := H.out.cell (g := g1) mem4
              have c_v := H.out.cell (g := gv) mem5
              clear ho_ hb_
              go_wp2_with fail
              go_meet
              refine ⟨chg ⟨l, dn, fu, fa, size, fr, (n : Int), false⟩ D, A3, Aq, c3, cq, rfl, HNE1, HOK1, ⟨by rw [HSC.out, hz]⟩, rfl, H⟩
          case rest =>
            obtain ⟨L1, A1, Aq1, c1, cq1, rfl, HNE, HOK1, HSC, hnx, H1⟩ := hcut
            clear c_l c_m c_t c_v H
            have H := H1
            clear H1
            have c_l := H.out.cell (g := gl) mem1
            have c_m := H.out.cell (g := g0) mem3
            have c_t := H.out.cell (g := g1) mem4
            have c_v := H.out.cell (g := gv) mem5
            obtain ⟨ps1, hps1⟩ : ∃ ps1, ps1 = placesF L1.l := ⟨_, rfl⟩
            have HPS1 := Aside0.mk hps1
            rw [← hps1] at HNE H ⊢
            clear hps1
            obtain ⟨p, hp⟩ : ∃ p, ps1.getLast? = some p := by
              cases hh : ps1.getLast? with
              | none => exact absurd (List.getLast?_eq_none_iff.1 hh) HNE.out
              | some p => exact ⟨p, rfl⟩
            have hgp : ps1[ps1.length - 1]? = some p := by rw [← List.getLast?_eq_getElem?]; exact hp
            have hp1 : 0 < ps1.length := by
              have := HNE.out
              cases ps1 with
              | nil => exact absurd rfl this
              | cons _ _ => simp
            have HNM : Aside0 (lastNm L1.l = p.1.f0) := ⟨by rw [lastNm, lastPl, ← HPS1.out, hp]⟩
            obtain ⟨aq, e1⟩ := row139 (H.out.reads (A := Aq1) mem0).2.2 (by omega)
            subst e1
            obtain ⟨h0, h1, h2, h3⟩ := at139 (H.out.reads (A := some aq) mem0).2.2 hgp
            clear hgp hp
            have hpl : ps1.length ≤ 64 := by
              have := places_len L1.l
              have h2 := right_len HOK1.out
              rw [HPS1.out]
              omega
            have hp2 : (0 : Int) ≤ (ps1.length : Int) - 1 := by omega
            have hp3 : (ps1.length : Int) - 1 < (ps1.length : Int) := by omega
            have hpw : IntKind.i64.wrap ((ps1.length : Int) - 1) = (ps1.length : Int) - 1 := by rw [IntKind.wrap_i64]; omega
            obtain ⟨nm, hnm⟩ : ∃ nm, nm = p.1.f0 := ⟨_, rfl⟩
            rw [← hnm] at h0 HNM
            clear hnm
            obtain ⟨D, hD⟩ : ∃ D, D = appendF L1.l L1.dn L1.fu L1.fa nm s := ⟨_, rfl⟩
            have HRV2 : Aside0 (R = putDo L1 s) := ⟨by rw [HRV.out, HSC.out, if_pos rfl]⟩
            have HSA : Aside0 (stepA L1 nm s = (chg L1 D, D.2.2.2.2)) := ⟨by rw [stepA, hD]⟩
            have HD := Aside0.mk hD
            clear hD
            go_upto_region 10 with fail
            refine start_ (n := 12) (S := fun w' => (∀ j : Nat, w'.cell? ⟨gv, j, none⟩ = [.pointer (some ⟨gl, 0, none⟩)][j]?) ∧ (∀ j : Nat, w'.cell? ⟨gl, j, none⟩ = [.slice A1 L1.l.length c1, .bool L1.dn, .int .i64 L1.fu, .int .i64 L1.fa, .int .i64 L1.size, .int .u64 L1.fr, .int .u64 L1.nx, .bool L1.br][j]?) ∧ Sp.Sep b w' (row k139 139 (.slice (some aq) (ps1).length cq1) ps1 :: box gl [.slice A1 L1.l.length c1, .bool L1.dn, .int .i64 L1.fu, .int .i64 L1.fa, .int .i64 L1.size, .int .u64 L1.fr, .int .u64 L1.nx, .bool L1.br] 134 :: row k67 67 (.slice A1 (L1.l).length c1) L1.l :: box g0 [.slice A0 l.length c0, .bool dn, .int .i64 fu, .int .i64 fa, .int .i64 size, .int .u64 fr, .int .u64 (n : Int), .bool false] 30 :: box g1 [.string d] 9 :: box gv [.pointer (some ⟨gl, 0, none⟩)] 131 :: ts)) (ds := [11]) #[false, false, false, false, false, false, false, false, false, false, false, false] (by kernel_rfl) rfl rfl ⟨(fun j => ((Sep.drew H.out)).cell (g := gv) mem5 j), (fun j => ((Sep.drew H.out)).cell (g := gl) mem1 j), (Sep.drew H.out)⟩ (fun hHeld => ?_)
            refine pure_ (i := 6) (N := some 93) (v := ?_) (a' := ?_) #[false, false, false, false, false, false, true, false, false, false, false, false] rfl rfl (by kernel_rfl) (fun _ _ _ h => h) (Or.inl ⟨by rfl, ?_⟩) ?_ ?_
            rotate_left
            · intro w'
              go_simp
              with_reducible rfl
            rotate_left
            · simp only [Act.put, List.setIfInBounds_toArray, List.set_cons_zero, List.set_cons_succ, i64_w, i32_w]
              rfl
            refine pure_ (i := 7) (N := some 94) (v := ?_) (a' := ?_) #[false, false, false, false, false, false, true, true, false, false, false, false] rfl rfl (by kernel_rfl) (fun _ _ _ h => h) (Or.inl ⟨by rfl, ?_⟩) ?_ ?_
            rotate_left
            · intro w'
              go_simp
              with_reducible rfl
            rotate_left
            · simp only [Act.put, List.setIfInBounds_toArray, List.set_cons_zero, List.set_cons_succ, i64_w, i32_w]
              rfl
            refine take_ (i := 0) (N := some 87) (v := ?_) (a' := ?_) #[true, false, false, false, false, false, true, true, false, false, false, false] rfl rfl (by kernel_rfl) (fun _ _ _ h => h) (Or.inl ⟨by rfl, ?_⟩) hHeld ?_ ?_
            rotate_left
            · rintro w' ⟨s0, s1, s2⟩
              go_simp
              with_reducible rfl
            rotate_left
            · simp only [Act.put, List.setIfInBounds_toArray, List.set_cons_zero, List.set_cons_succ, i64_w, i32_w]
              rfl
            refine take_ (i := 1) (N := some 88) (v := ?_) (a' := ?_) #[true, true, false, false, false, false, true, true, false, false, false, false] rfl rfl (by kernel_rfl) (fun _ _ _ h => h) (Or.inl ⟨by rfl, ?_⟩) hHeld ?_ ?_
            rotate_left
            · rintro w' ⟨s0, s1, s2⟩
              go_simp
              with_reducible rfl
            rotate_left
            · simp only [Act.put, List.setIfInBounds_toArray, List.set_cons_zero, List.set_cons_succ, i64_w, i32_w]
              rfl
            refine pure_ (i := 2) (N := some 89) (v := ?_) (a' := ?_) #[true, true, true, false, false, false, true, true, false, false, false, false] rfl rfl (by kernel_rfl) (fun _ _ _ h => h) (Or.inl ⟨by rfl, ?_⟩) ?_ ?_
            rotate_left
            · intro w'
              go_simp
              with_reducible rfl
            rotate_left
            · simp only [Act.put, List.setIfInBounds_toArray, List.set_cons_zero, List.set_cons_succ, i64_w, i32_w]
              rfl
            refine pure_ (i := 3) (N := some 90) (v := ?_) (a' := ?_) #[true, true, true, true, false, false, true, true, false, false, false, false] rfl rfl (by kernel_rfl) (fun _ _ _ h => h) (Or.inl ⟨by rfl, ?_⟩) ?_ ?_
            rotate_left
            · intro w'
              go_simp
              with_reducible rfl
            rotate_left
            · simp only [Act.put, List.setIfInBounds_toArray, List.set_cons_zero, List.set_cons_succ, i64_w, i32_w]
              rfl
            refine pure_ (i := 4) (N := some 91) (v := ?_) (a' := ?_) #[true, true, true, true, true, false, true, true, false, false, false, false] rfl rfl (by kernel_rfl) (fun _ _ _ h => h) (Or.inl ⟨by rfl, ?_⟩) ?_ ?_
            rotate_left
            · intro w'
              go_simp
              with_reducible rfl
            rotate_left
            · simp only [Act.put, List.setIfInBounds_toArray, List.set_cons_zero, List.set_cons_succ, i64_w, i32_w]
              rfl
            refine take_ (i := 5) (N := some 92) (v := ?_) (a' := ?_) #[true, true, true, true, true, true, true, true, false, false, false, false] rfl rfl (by kernel_rfl) (fun _ _ _ h => h) (Or.inl ⟨by rfl, ?_⟩) hHeld ?_ ?_
            rotate_left
            · rintro w' ⟨s0, s1, s2⟩
              go_simp
              with_reducible rfl
            rotate_left
            · simp only [Act.put, List.setIfInBounds_toArray, List.set_cons_zero, List.set_cons_succ, i64_w, i32_w]
              rfl
            refine one_ (i := 8) (N := some 95) #[true, true, true, true, true, true, true, true, true, false, false, false] rfl rfl (by kernel_rfl) (by decide) (fun K hK => ?_)
            refine goes_ Tryz.func82 (by kernel_rfl) rfl #[.agg #[.slice A1 L1.l.length c1, .bool L1.dn, .int .i64 L1.fu, .int .i64 L1.fa], .string nm, .string s] (by rfl) rfl rfl (by simp only [List.map_toArray, List.map_cons, List.map_nil]; rfl) ?_
            with_reducible refine (disk_Append.calls A1 c1 L1.l L1.dn L1.fu L1.fa nm s D.1 D.2.1 D.2.2.1 D.2.2.2.1 D.2.2.2.2 _ (Sep.reads hHeld.2.2 mem2).2.2 (Sep.reads hHeld.2.2 mem2).2.1 (by rw [disk_Append_eq, ← HD.out])).mono ?_
            rintro e w5 ⟨v_, rfl, ho_, hb5_⟩
            obtain ⟨A3, c3, eo_⟩ := Kd.R_slice ho_
            subst eo_
            have HN3 := Aside0.mk (Sep.push_row hHeld.2.2 hb5_ ho_ k67_flat)
            refine ⟨_, rfl, ?_⟩
            refine hK.out _ _ ⟨(fun j => ((Sep.step hHeld.2.2 hb5_)).cell (g := gv) mem5 j), (fun j => ((Sep.step hHeld.2.2 hb5_)).cell (g := gl) mem1 j), (Sep.step hHeld.2.2 hb5_)⟩ (fun hHeld => ?_)
            clear hK K
            refine norm_ (a' := ?_) ?_ ?_
            rotate_left
            · show Act.put _ (some 95) _ = _
              simp only [Act.put, List.setIfInBounds_toArray, List.set_cons_zero, List.set_cons_succ, i64_w, i32_w]
              rfl
            refine pure_ (i := 9) (N := some 96) (v := ?_) (a' := ?_) #[true, true, true, true, true, true, true, true, true, true, false, false] rfl rfl (by kernel_rfl) (fun _ _ _ h => h) (Or.inl ⟨by rfl, ?_⟩) ?_ ?_
            rotate_left
            · intro w'
              go_simp
              with_reducible rfl
            rotate_left
            · simp only [Act.put, List.setIfInBounds_toArray, List.set_cons_zero, List.set_cons_succ, i64_w, i32_w]
              rfl
            refine pure_ (i := 10) (N := some 97) (v := ?_) (a' := ?_) #[true, true, true, true, true, true, true, true, true, true, true, false] rfl rfl (by kernel_rfl) (fun _ _ _ h => h) (Or.inl ⟨by rfl, ?_⟩) ?_ ?_
            rotate_left
            · intro w'
              go_simp
              with_reducible rfl
            rotate_left
            · simp only [Act.put, List.setIfInBounds_toArray, List.set_cons_zero, List.set_cons_succ, i64_w, i32_w]
              rfl
            refine last_ (i := 11) (N := some 98) #[true, true, true, true, true, true, true, true, true, true, true, true] rfl rfl (by kernel_rfl) (by decide) (fun K hK => ?_)
            refine goesE_ Tryz.func72 (by kernel_rfl) rfl #[.pointer (some ⟨gl, 0, none⟩), .agg #[.slice A3 D.1.length c3, .bool D.2.1, .int .i64 D.2.2.1, .int .i64 D.2.2.2.1], .int .i64 D.2.2.2.2] (by rfl) rfl rfl (by simp only [List.map_toArray, List.map_cons, List.map_nil]; rfl) ?_
            refine (change_any gl A1 c1 L1 A3 c3 D (rs := rowF A3 c3 D.1 :: (row k139 139 (.slice (some aq) (ps1).length cq1) ps1 :: row k67 67 (.slice A1 (L1.l).length c1) L1.l :: box g0 [.slice A0 l.length c0, .bool dn, .int .i64 fu, .int .i64 fa, .int .i64 size, .int .u64 fr, .int .u64 (n : Int), .bool false] 30 :: box g1 [.string d] 9 :: box gv [.pointer (some ⟨gl, 0, none⟩)] 131 :: ts)) ⟨HN3.out.front2⟩).mono ?_
            rintro e w6 ⟨hE, H4⟩
            rcases hE with ⟨hz, rfl⟩ | ⟨hnz, rfl⟩
            rotate_left
            · refine .inr ⟨_, rfl, ?_⟩
              have hV : R = (chg L1 D, D.2.2.2.2) := by rw [HRV2.out, putDo, HNM.out, HSA.out, if_neg hnz]
              show _ ∧ _
              rw [hV]
              exact ⟨rfl, .inr ⟨hnz, rfl⟩, A3, c3, ⟨(Sep.drop2 (Sep.drop3 H4.out))⟩⟩
            refine .inl ⟨_, rfl, ?_⟩
            refine hK.out _ _ ?_
            clear hK K
            refine norm_ (a' := ?_) ?_ ?_
            rotate_left
            · show Act.put _ (some 98) _ = _
              simp only [Act.put, List.setIfInBounds_toArray, List.set_cons_zero, List.set_cons_succ, i64_w, i32_w]
              rfl
            refine done_ (by kernel_rfl) ?_
            clear c_l c_m c_t c_v H
            have H : Aside0 (Sep b w6 (box gl [.slice A3 D.1.length c3, .bool D.2.1, .int .i64 D.2.2.1, .int .i64 D.2.2.2.1, .int .i64 L1.size, .int .u64 L1.fr, .int .u64 L1.nx, .bool (if D.2.2.2.2 = 0 then L1.br else true)] 134 :: row k67 67 (.slice A3 (D.1).length c3) D.1 :: box g0 [.slice A0 l.length c0, .bool dn, .int .i64 fu, .int .i64 fa, .int .i64 size, .int .u64 fr, .int .u64 (n : Int), .bool false] 30 :: box g1 [.string d] 9 :: box gv [.pointer (some ⟨gl, 0, none⟩)] 131 :: ts)) := ⟨(Sep.drop2 (Sep.drop3 H4.out))⟩
            clear H4 HN3
            have c_l := H.out.cell (g := gl) mem0
            have c_m := H.out.cell (g := g0) mem2
            have c_t := H.out.cell (g := g1) mem3
            have c_v := H.out.cell (g := gv) mem4
            obtain ⟨E, hE⟩ : ∃ E, E = syncF D.1 D.2.1 D.2.2.1 D.2.2.2.1 nm := ⟨_, rfl⟩
            have HSS : Aside0 (stepS (chg L1 D) nm = (chg (chg L1 D) E, E.2.2.2.2)) := ⟨by rw [stepS, hE]; rfl⟩
            have HE := Aside0.mk hE
            have HZ := Aside0.mk hz
            clear hE hz
            go_upto_region 11 with fail
            refine start_ (n := 11) (S := fun w' => (∀ j : Nat, w'.cell? ⟨gv, j, none⟩ = [.pointer (some ⟨gl, 0, none⟩)][j]?) ∧ (∀ j : Nat, w'.cell? ⟨gl, j, none⟩ = [.slice A3 D.1.length c3, .bool D.2.1, .int .i64 D.2.2.1, .int .i64 D.2.2.2.1, .int .i64 L1.size, .int .u64 L1.fr, .int .u64 L1.nx, .bool (if D.2.2.2.2 = 0 then L1.br else true)][j]?) ∧ Sp.Sep b w' (box gl [.slice A3 D.1.length c3, .bool D.2.1, .int .i64 D.2.2.1, .int .i64 D.2.2.2.1, .int .i64 L1.size, .int .u64 L1.fr, .int .u64 L1.nx, .bool (if D.2.2.2.2 = 0 then L1.br else true)] 134 :: row k67 67 (.slice A3 (D.1).length c3) D.1 :: box g0 [.slice A0 l.length c0, .bool dn, .int .i64 fu, .int .i64 fa, .int .i64 size, .int .u64 fr, .int .u64 (n : Int), .bool false] 30 :: box g1 [.string d] 9 :: box gv [.pointer (some ⟨gl, 0, none⟩)] 131 :: ts)) (ds := [10]) #[false, false, false, false, false, false, false, false, false, false, false] (by kernel_rfl) rfl rfl ⟨(fun j => ((Sep.drew H.out)).cell (g := gv) mem4 j), (fun j => ((Sep.drew H.out)).cell (g := gl) mem0 j), (Sep.drew H.out)⟩ (fun hHeld => ?_)
            refine pure_ (i := 6) (N := some 105) (v := ?_) (a' := ?_) #[false, false, false, false, false, false, true, false, false, false, false] rfl rfl (by kernel_rfl) (fun _ _ _ h => h) (Or.inl ⟨by rfl, ?_⟩) ?_ ?_
            rotate_left
            · intro w'
              go_simp
              with_reducible rfl
            rotate_left
            · simp only [Act.put, List.setIfInBounds_toArray, List.set_cons_zero, List.set_cons_succ, i64_w, i32_w]
              rfl
            refine take_ (i := 0) (N := some 99) (v := ?_) (a' := ?_) #[true, false, false, false, false, false, true, false, false, false, false] rfl rfl (by kernel_rfl) (fun _ _ _ h => h) (Or.inl ⟨by rfl, ?_⟩) hHeld ?_ ?_
            rotate_left
            · rintro w' ⟨s0, s1, s2⟩
              go_simp
              with_reducible rfl
            rotate_left
            · simp only [Act.put, List.setIfInBounds_toArray, List.set_cons_zero, List.set_cons_succ, i64_w, i32_w]
              rfl
            refine take_ (i := 1) (N := some 100) (v := ?_) (a' := ?_) #[true, true, false, false, false, false, true, false, false, false, false] rfl rfl (by kernel_rfl) (fun _ _ _ h => h) (Or.inl ⟨by rfl, ?_⟩) hHeld ?_ ?_
            rotate_left
            · rintro w' ⟨s0, s1, s2⟩
              go_simp
              with_reducible rfl
            rotate_left
            · simp only [Act.put, List.setIfInBounds_toArray, List.set_cons_zero, List.set_cons_succ, i64_w, i32_w]
              rfl
            refine pure_ (i := 2) (N := some 101) (v := ?_) (a' := ?_) #[true, true, true, false, false, false, true, false, false, false, false] rfl rfl (by kernel_rfl) (fun _ _ _ h => h) (Or.inl ⟨by rfl, ?_⟩) ?_ ?_
            rotate_left
            · intro w'
              go_simp
              with_reducible rfl
            rotate_left
            · simp only [Act.put, List.setIfInBounds_toArray, List.set_cons_zero, List.set_cons_succ, i64_w, i32_w]
              rfl
            refine pure_ (i := 3) (N := some 102) (v := ?_) (a' := ?_) #[true, true, true, true, false, false, true, false, false, false, false] rfl rfl (by kernel_rfl) (fun _ _ _ h => h) (Or.inl ⟨by rfl, ?_⟩) ?_ ?_
            rotate_left
            · intro w'
              go_simp
              with_reducible rfl
            rotate_left
            · simp only [Act.put, List.setIfInBounds_toArray, List.set_cons_zero, List.set_cons_succ, i64_w, i32_w]
              rfl
            refine pure_ (i := 4) (N := some 103) (v := ?_) (a' := ?_) #[true, true, true, true, true, false, true, false, false, false, false] rfl rfl (by kernel_rfl) (fun _ _ _ h => h) (Or.inl ⟨by rfl, ?_⟩) ?_ ?_
            rotate_left
            · intro w'
              go_simp
              with_reducible rfl
            rotate_left
            · simp only [Act.put, List.setIfInBounds_toArray, List.set_cons_zero, List.set_cons_succ, i64_w, i32_w]
              rfl
            refine take_ (i := 5) (N := some 104) (v := ?_) (a' := ?_) #[true, true, true, true, true, true, true, false, false, false, false] rfl rfl (by kernel_rfl) (fun _ _ _ h => h) (Or.inl ⟨by rfl, ?_⟩) hHeld ?_ ?_
            rotate_left
            · rintro w' ⟨s0, s1, s2⟩
              go_simp
              with_reducible rfl
            rotate_left
            · simp only [Act.put, List.setIfInBounds_toArray, List.set_cons_zero, List.set_cons_succ, i64_w, i32_w]
              rfl
            refine one_ (i := 7) (N := some 106) #[true, true, true, true, true, true, true, true, false, false, false] rfl rfl (by kernel_rfl) (by decide) (fun K hK => ?_)
            refine goes_ Tryz.func83 (by kernel_rfl) rfl #[.agg #[.slice A3 D.1.length c3, .bool D.2.1, .int .i64 D.2.2.1, .int .i64 D.2.2.2.1], .string nm] (by rfl) rfl rfl (by simp only [List.map_toArray, List.map_cons, List.map_nil]; rfl) ?_
            with_reducible refine (disk_Sync.calls A3 c3 D.1 D.2.1 D.2.2.1 D.2.2.2.1 nm E.1 E.2.1 E.2.2.1 E.2.2.2.1 E.2.2.2.2 _ (Sep.reads hHeld.2.2 mem1).2.2 (Sep.reads hHeld.2.2 mem1).2.1 (by rw [disk_Sync_eq, ← HE.out])).mono ?_
            rintro e w7 ⟨v_, rfl, ho_, hb5_⟩
            obtain ⟨A4, c4, eo_⟩ := Kd.R_slice ho_
            subst eo_
            have HN3 := Aside0.mk (Sep.push_row hHeld.2.2 hb5_ ho_ k67_flat)
            refine ⟨_, rfl, ?_⟩
            refine hK.out _ _ ⟨(fun j => ((Sep.step hHeld.2.2 hb5_)).cell (g := gv) mem4 j), (fun j => ((Sep.step hHeld.2.2 hb5_)).cell (g := gl) mem0 j), (Sep.step hHeld.2.2 hb5_)⟩ (fun hHeld => ?_)
            clear hK K
            refine norm_ (a' := ?_) ?_ ?_
            rotate_left
            · show Act.put _ (some 106) _ = _
              simp only [Act.put, List.setIfInBounds_toArray, List.set_cons_zero, List.set_cons_succ, i64_w, i32_w]
              rfl
            refine pure_ (i := 8) (N := some 107) (v := ?_) (a' := ?_) #[true, true, true, true, true, true, true, true, true, false, false] rfl rfl (by kernel_rfl) (fun _ _ _ h => h) (Or.inl ⟨by rfl, ?_⟩) ?_ ?_
            rotate_left
            · intro w'
              go_simp
              with_reducible rfl
            rotate_left
            · simp only [Act.put, List.setIfInBounds_toArray, List.set_cons_zero, List.set_cons_succ, i64_w, i32_w]
              rfl
            refine pure_ (i := 9) (N := some 108) (v := ?_) (a' := ?_) #[true, true, true, true, true, true, true, true, true, true, false] rfl rfl (by kernel_rfl) (fun _ _ _ h => h) (Or.inl ⟨by rfl, ?_⟩) ?_ ?_
            rotate_left
            · intro w'
              go_simp
              with_reducible rfl
            rotate_left
            · simp only [Act.put, List.setIfInBounds_toArray, List.set_cons_zero, List.set_cons_succ, i64_w, i32_w]
              rfl
            refine last_ (i := 10) (N := some 109) #[true, true, true, true, true, true, true, true, true, true, true] rfl rfl (by kernel_rfl) (by decide) (fun K hK => ?_)
            refine goesE_ Tryz.func72 (by kernel_rfl) rfl #[.pointer (some ⟨gl, 0, none⟩), .agg #[.slice A4 E.1.length c4, .bool E.2.1, .int .i64 E.2.2.1, .int .i64 E.2.2.2.1], .int .i64 E.2.2.2.2] (by rfl) rfl rfl (by simp only [List.map_toArray, List.map_cons, List.map_nil]; rfl) ?_
            refine (change_any gl A3 c3 (chg L1 D) A4 c4 E (rs := rowF A4 c4 E.1 :: (row k67 67 (.slice A3 (D.1).length c3) D.1 :: box g0 [.slice A0 l.length c0, .bool dn, .int .i64 fu, .int .i64 fa, .int .i64 size, .int .u64 fr, .int .u64 (n : Int), .bool false] 30 :: box g1 [.string d] 9 :: box gv [.pointer (some ⟨gl, 0, none⟩)] 131 :: ts)) ⟨HN3.out.front1⟩).mono ?_
            rintro e w8 ⟨hE, H4⟩
            rcases hE with ⟨hz2, rfl⟩ | ⟨hnz, rfl⟩
            rotate_left
            · refine .inr ⟨_, rfl, ?_⟩
              have hV : R = (chg (chg L1 D) E, E.2.2.2.2) := by rw [HRV2.out, putDo, HNM.out, HSA.out, if_pos HZ.out, HSS.out, if_neg hnz]
              show _ ∧ _
              rw [hV]
              exact ⟨rfl, .inr ⟨hnz, rfl⟩, A4, c4, ⟨(Sep.drop2 H4.out)⟩⟩
            refine .inl ⟨_, rfl, ?_⟩
            refine hK.out _ _ ?_
            clear hK K
            refine norm_ (a' := ?_) ?_ ?_
            rotate_left
            · show Act.put _ (some 109) _ = _
              simp only [Act.put, List.setIfInBounds_toArray, List.set_cons_zero, List.set_cons_succ, i64_w, i32_w]
              rfl
            refine done_ (by kernel_rfl) ?_
            clear c_l c_m c_t c_v H
            have H : Aside0 (Sep b w8 (box gl [.slice A4 E.1.length c4, .bool E.2.1, .int .i64 E.2.2.1, .int .i64 E.2.2.2.1, .int .i64 L1.size, .int .u64 L1.fr, .int .u64 L1.nx, .bool (if E.2.2.2.2 = 0 then (if D.2.2.2.2 = 0 then L1.br else true) else true)] 134 :: row k67 67 (.slice A4 (E.1).length c4) E.1 :: box g0 [.slice A0 l.length c0, .bool dn, .int .i64 fu, .int .i64 fa, .int .i64 size, .int .u64 fr, .int .u64 (n : Int), .bool false] 30 :: box g1 [.string d] 9 :: box gv [.pointer (some ⟨gl, 0, none⟩)] 131 :: ts)) := ⟨(Sep.drop2 H4.out)⟩
            clear H4 HN3
            have c_l := H.out.cell (g := gl) mem0
            have z_l := H.out.frozen (g := gl) mem0
            have c_m := H.out.cell (g := g0) mem2
            have c_t := H.out.cell (g := g1) mem3
            have c_v := H.out.cell (g := gv) mem4
            have HZ2 := Aside0.mk hz2
            clear hz2
            have hx1 : 0 ≤ L1.nx := by omega
            have hx2 : L1.nx < 4611686018427387904 := by omega
            have HNX := Aside0.mk hnx
            clear hnx
            go_wp2_with (first
 | ((with_reducible refine gate_store (t := 28) (p := 118) rfl ?_);
    refine put_box (rs1 := (box gl [.slice A4 E.1.length c4, .bool E.2.1, .int .i64 E.2.2.1, .int .i64 E.2.2.2.1, .int .i64 L1.size, .int .u64 L1.fr, .int .u64 (L1.nx + 1), .bool (if E.2.2.2.2 = 0 then (if D.2.2.2.2 = 0 then L1.br else true) else true)] 134 :: row k67 67 (.slice A4 (E.1).length c4) E.1 :: box g0 [.slice A0 l.length c0, .bool dn, .int .i64 fu, .int .i64 fa, .int .i64 size, .int .u64 fr, .int .u64 (n : Int), .bool false] 30 :: box g1 [.string d] 9 :: box gv [.pointer (some ⟨gl, 0, none⟩)] 131 :: ts)) rfl (t := 28) (p := 118) rfl rfl ?hr (H1 := (Sep.set0 H.out 6 (.int .u64 (L1.nx + 1)) rfl)) ?_;
    (case hr => first | (go_simp; done) | (go_simp; rfl));
    intro wd4 n_;
    clear H c_l z_l c_m c_t c_v;
    have H := n_;
    clear n_;
    have c_l := H.out.cell (g := gl) mem0;
    have z_l := H.out.frozen (g := gl) mem0;
    have c_m := H.out.cell (g := g0) mem2;
    have c_t := H.out.cell (g := g1) mem3;
    have c_v := H.out.cell (g := gv) mem4)
 | fail)
            go_end0
            have hV : R = ({ chg (chg L1 D) E with nx := L1.nx + 1 }, 0) := by rw [HRV2.out, putDo, HNM.out, HSA.out, if_pos HZ.out, HSS.out, if_pos HZ2.out]
            rw [hV]
            exact ⟨.inl ⟨rfl, rfl⟩, A4, c4, H⟩
end Go.Proofs.YtanonhipicoigaaGreatDoor.U
namespace Go.Proofs.YtanonhipicoigaaGreatDoor.U
open Go.RowKit Go.Proofs.YtanonhipicoigaaGreatDoorW.PrintWords Go.Proofs.YtanonhipicoigaaGreatDoorW.PrintLast Go.Proofs.YtanonhipicoigaaGreatDoorW.PrintMore
attribute [local go_sem] max2_int min2_int max_two min_two max_three min_three max_four min_four   -- for this text's walks alone
set_option linter.unusedVariables false
set_option linter.unusedSimpArgs false
/-! ### segment_Check: function 33 -/
def segment_Check.f (l0_0 : List (S67)) (a0_1 : Bool) (a0_2 : Int) (a0_3 : Int) (a0_4 : Int) (a0_5 : Int) (a0_6 : Int) (a0_7 : Bool) : Option (Int) := (disk_Check.f l0_0 a0_1 a0_2 a0_3).bind fun t151 => (if t151 = 0 then (if a0_4 < 1 then (some 6) else (if a0_4 > 262144 then (some 6) else (if a0_5 > a0_6 then (some 6) else (if a0_6 > 4611686018427387904 then (some 6) else (some 0))))) else (some 6))
set_option maxHeartbeats 8000000 in
set_option maxRecDepth 100000 in
theorem segment_Check.calls (A0_0 : Option Addr) (c0_0 : Nat) (l0_0 : List (S67)) (a0_1 : Bool) (a0_2 : Int) (a0_3 : Int) (a0_4 : Int) (a0_5 : Int) (a0_6 : Int) (a0_7 : Bool) (r : Int) (w : World) (hr0_0 : Kd.C k67 w A0_0 l0_0.length l0_0) (hc0_0 : l0_0.length ≤ c0_0) (h : segment_Check.f l0_0 a0_1 a0_2 a0_3 a0_4 a0_5 a0_6 a0_7 = some r) :
    Calls Tryz.prog 33 #[.agg #[.slice A0_0 l0_0.length c0_0, .bool a0_1, .int .i64 a0_2, .int .i64 a0_3, .int .i64 a0_4, .int .u64 a0_5, .int .u64 a0_6, .bool a0_7]] w fun e w' => e = .returned (.int .i64 r) ∧ Below w.heap.size w w' := by
  have hu30 := Tryz.underlying30
  have hu27 := Tryz.underlying27
  have HR0_0 := Aside0.mk hr0_0
  have HC0_0 := Aside0.mk hc0_0
  clear hr0_0 hc0_0
  have HB := Aside0.mk (Below.refl w.heap.size w)
  have H : ((disk_Check.f l0_0 a0_1 a0_2 a0_3).bind fun t151 => (if t151 = 0 then (if a0_4 < 1 then (some 6) else (if a0_4 > 262144 then (some 6) else (if a0_5 > a0_6 then (some 6) else (if a0_6 > 4611686018427387904 then (some 6) else (some 0))))) else (some 6))) = some r := h
  clear h
  replace H := Option.bind_eq_some_iff.mp H
  obtain ⟨t151, A20, H⟩ := H
  replace H : (if t151 = 0 then (if a0_4 < 1 then (some 6) else (if a0_4 > 262144 then (some 6) else (if a0_5 > a0_6 then (some 6) else (if a0_6 > 4611686018427387904 then (some 6) else (some 0))))) else (some 6)) = some r := H
  have A2 := Aside0.mk A20
  clear A20
  by_cases c3 : t151 = 0
  · rw [if_pos c3] at H
    have c3b0 : (t151 == 0) = true := beq_iff_eq.mpr c3
    have c3b1 : (t151 != 0) = false := bne_eq_false_iff_eq.mpr c3
    clear c3
    by_cases c4 : a0_4 < 1
    · rw [if_pos c4] at H
      have c4b0 : decide (a0_4 < 1) = true := decide_eq_true c4
      clear c4
      obtain rfl := Option.some.inj H
      go_enter Tryz.func33, Tryz.ntmps33
      go_wp2_with (first | ((with_reducible refine gate_dst (N := 1) rfl ?_); refine box_event ?hg (N := 1) ?hd (cs := #[.slice A0_0 l0_0.length c0_0, .bool a0_1, .int .i64 a0_2, .int .i64 a0_3, .int .i64 a0_4, .int .u64 a0_5, .int .u64 a0_6, .bool a0_7]) (t := 30) ?hr ?_; (case hd => rfl); (case hg => rfl); (case hr => first | (go_simp; done) | (go_simp; rfl)); intro gb150 hg w5 hbox hb; have n0_ := Aside0.mk (below_step (by repeat (first | (with_reducible first | exact HB.out | apply below_alloc | apply pw_below_drewN | apply below_drew1) | exact HB.out)) hb); have n1_ := Aside0.mk (hbox); have n2_ := Aside0.mk ((by rw [hg]; exact (below_size (by repeat (first | (with_reducible first | exact HB.out | apply below_alloc | apply pw_below_drewN | apply below_drew1) | exact HB.out))) : w.heap.size ≤ gb150)); have n3_ := Aside0.mk ((by rw [hg]; exact (below_size (by repeat (first | (with_reducible first | exact HB.out | apply below_alloc | apply pw_below_drewN | apply below_drew1) | exact HB.out))) : w.heap.size ≤ gb150)); clear HB; have HB := n0_; have BK150 := n1_; have GW150 := n2_; have GE150 := n3_; clear n0_ n1_ n2_ n3_; clear hb hbox hg; have hcz6_0 : w5.cell? ⟨gb150, 0, none⟩ = some (.slice A0_0 l0_0.length c0_0) := (blk_cell BK150.out 0).trans rfl; have hcz6_1 : w5.cell? ⟨gb150, 1, none⟩ = some (.bool a0_1) := (blk_cell BK150.out 1).trans rfl; have hcz6_2 : w5.cell? ⟨gb150, 2, none⟩ = some (.int .i64 a0_2) := (blk_cell BK150.out 2).trans rfl; have hcz6_3 : w5.cell? ⟨gb150, 3, none⟩ = some (.int .i64 a0_3) := (blk_cell BK150.out 3).trans rfl; have hcz6_4 : w5.cell? ⟨gb150, 4, none⟩ = some (.int .i64 a0_4) := (blk_cell BK150.out 4).trans rfl; have hcz6_5 : w5.cell? ⟨gb150, 5, none⟩ = some (.int .u64 a0_5) := (blk_cell BK150.out 5).trans rfl; have hcz6_6 : w5.cell? ⟨gb150, 6, none⟩ = some (.int .u64 a0_6) := (blk_cell BK150.out 6).trans rfl; have hcz6_7 : w5.cell? ⟨gb150, 7, none⟩ = some (.bool a0_7) := (blk_cell BK150.out 7).trans rfl; have hfz6_0 := blk_frozen BK150.out 0; have hfz6_1 := blk_frozen BK150.out 1; have hfz6_2 := blk_frozen BK150.out 2; have hfz6_3 := blk_frozen BK150.out 3; have hfz6_4 := blk_frozen BK150.out 4; have hfz6_5 := blk_frozen BK150.out 5; have hfz6_6 := blk_frozen BK150.out 6; have hfz6_7 := blk_frozen BK150.out 7) | ((with_reducible refine gate_callee (f := 50) rfl ?_); refine goesL_ (some 5) rfl rfl Tryz.func50 (by kernel_rfl) rfl #[.agg #[.slice A0_0 l0_0.length c0_0, .bool a0_1, .int .i64 a0_2, .int .i64 a0_3]] rfl (by (try simp only [List.map_toArray, List.map_cons, List.map_nil]); first | done | rfl | (simp only [List.length_drop, List.length_take]; rfl)) ?_; (with_reducible refine (disk_Check.calls _ _ l0_0 a0_1 a0_2 a0_3 t151 _ ?side1 ?side2 A2.out).mono ?_); (case side1 => repeat (first | exact (Kd.C_below HR0_0.out HB.out) | (with_reducible refine Kd.C_alloc ?_ _) | (with_reducible refine Kd.C_drewN ?_ _) | (with_reducible refine Kd.C_drew ?_))); (case side2 => exact HC0_0.out); rintro e w7 ⟨rfl, hb⟩; refine ⟨_, rfl, ?_⟩; have n0_ := Aside0.mk (blk_below (g := gb150) (o := .cells #[.slice A0_0 l0_0.length c0_0, .bool a0_1, .int .i64 a0_2, .int .i64 a0_3, .int .i64 a0_4, .int .u64 a0_5, .int .u64 a0_6, .bool a0_7] 30 (0, 0)) (by (with_reducible repeat (first | refine blk_drewN ?_ _ | refine blk_drew ?_ | refine blk_alloc ?_ _)); exact BK150.out) hb); have n1_ := Aside0.mk (below_step (by repeat (first | (with_reducible first | exact HB.out | apply below_alloc | apply pw_below_drewN | apply below_drew1 | refine below_set ?_ GE150.out) | exact HB.out)) hb); clear BK150; clear HB; have BK150 := n0_; have HB := n1_; clear n0_ n1_; (try clear hb); (try clear hb2); (try clear hk); (try clear hi); have hcz8_0 : w7.cell? ⟨gb150, 0, none⟩ = some (.slice A0_0 l0_0.length c0_0) := (blk_cell BK150.out 0).trans rfl; have hcz8_1 : w7.cell? ⟨gb150, 1, none⟩ = some (.bool a0_1) := (blk_cell BK150.out 1).trans rfl; have hcz8_2 : w7.cell? ⟨gb150, 2, none⟩ = some (.int .i64 a0_2) := (blk_cell BK150.out 2).trans rfl; have hcz8_3 : w7.cell? ⟨gb150, 3, none⟩ = some (.int .i64 a0_3) := (blk_cell BK150.out 3).trans rfl; have hcz8_4 : w7.cell? ⟨gb150, 4, none⟩ = some (.int .i64 a0_4) := (blk_cell BK150.out 4).trans rfl; have hcz8_5 : w7.cell? ⟨gb150, 5, none⟩ = some (.int .u64 a0_5) := (blk_cell BK150.out 5).trans rfl; have hcz8_6 : w7.cell? ⟨gb150, 6, none⟩ = some (.int .u64 a0_6) := (blk_cell BK150.out 6).trans rfl; have hcz8_7 : w7.cell? ⟨gb150, 7, none⟩ = some (.bool a0_7) := (blk_cell BK150.out 7).trans rfl; have hfz8_0 := blk_frozen BK150.out 0; have hfz8_1 := blk_frozen BK150.out 1; have hfz8_2 := blk_frozen BK150.out 2; have hfz8_3 := blk_frozen BK150.out 3; have hfz8_4 := blk_frozen BK150.out 4; have hfz8_5 := blk_frozen BK150.out 5; have hfz8_6 := blk_frozen BK150.out 6; have hfz8_7 := blk_frozen BK150.out 7))
      go_ret
      exact ⟨by first | rfl | (simp [errW_none, errW_some] <;> rfl) | (simp [*, errW_none, errW_some] <;> rfl), by repeat (first | (with_reducible first | exact HB.out | apply below_alloc | apply pw_below_drewN | apply below_drew1 | refine below_set ?_ GE150.out) | exact HB.out)⟩
    · rw [if_neg c4] at H
      have c4b0 : decide (a0_4 < 1) = false := decide_eq_false c4
      clear c4
      by_cases c9 : a0_4 > 262144
      · rw [if_pos c9] at H
        have c9b0 : decide (262144 < a0_4) = true := decide_eq_true c9
        clear c9
        obtain rfl := Option.some.inj H
        go_enter Tryz.func33, Tryz.ntmps33
        go_wp2_with (first | ((with_reducible refine gate_dst (N := 1) rfl ?_); refine box_event ?hg (N := 1) ?hd (cs := #[.slice A0_0 l0_0.length c0_0, .bool a0_1, .int .i64 a0_2, .int .i64 a0_3, .int .i64 a0_4, .int .u64 a0_5, .int .u64 a0_6, .bool a0_7]) (t := 30) ?hr ?_; (case hd => rfl); (case hg => rfl); (case hr => first | (go_simp; done) | (go_simp; rfl)); intro gb150 hg w10 hbox hb; have n0_ := Aside0.mk (below_step (by repeat (first | (with_reducible first | exact HB.out | apply below_alloc | apply pw_below_drewN | apply below_drew1) | exact HB.out)) hb); have n1_ := Aside0.mk (hbox); have n2_ := Aside0.mk ((by rw [hg]; exact (below_size (by repeat (first | (with_reducible first | exact HB.out | apply below_alloc | apply pw_below_drewN | apply below_drew1) | exact HB.out))) : w.heap.size ≤ gb150)); have n3_ := Aside0.mk ((by rw [hg]; exact (below_size (by repeat (first | (with_reducible first | exact HB.out | apply below_alloc | apply pw_below_drewN | apply below_drew1) | exact HB.out))) : w.heap.size ≤ gb150)); clear HB; have HB := n0_; have BK150 := n1_; have GW150 := n2_; have GE150 := n3_; clear n0_ n1_ n2_ n3_; clear hb hbox hg; have hcz11_0 : w10.cell? ⟨gb150, 0, none⟩ = some (.slice A0_0 l0_0.length c0_0) := (blk_cell BK150.out 0).trans rfl; have hcz11_1 : w10.cell? ⟨gb150, 1, none⟩ = some (.bool a0_1) := (blk_cell BK150.out 1).trans rfl; have hcz11_2 : w10.cell? ⟨gb150, 2, none⟩ = some (.int .i64 a0_2) := (blk_cell BK150.out 2).trans rfl; have hcz11_3 : w10.cell? ⟨gb150, 3, none⟩ = some (.int .i64 a0_3) := (blk_cell BK150.out 3).trans rfl; have hcz11_4 : w10.cell? ⟨gb150, 4, none⟩ = some (.int .i64 a0_4) := (blk_cell BK150.out 4).trans rfl; have hcz11_5 : w10.cell? ⟨gb150, 5, none⟩ = some (.int .u64 a0_5) := (blk_cell BK150.out 5).trans rfl; have hcz11_6 : w10.cell? ⟨gb150, 6, none⟩ = some (.int .u64 a0_6) := (blk_cell BK150.out 6).trans rfl; have hcz11_7 : w10.cell? ⟨gb150, 7, none⟩ = some (.bool a0_7) := (blk_cell BK150.out 7).trans rfl; have hfz11_0 := blk_frozen BK150.out 0; have hfz11_1 := blk_frozen BK150.out 1; have hfz11_2 := blk_frozen BK150.out 2; have hfz11_3 := blk_frozen BK150.out 3; have hfz11_4 := blk_frozen BK150.out 4; have hfz11_5 := blk_frozen BK150.out 5; have hfz11_6 := blk_frozen BK150.out 6; have hfz11_7 := blk_frozen BK150.out 7) | ((with_reducible refine gate_callee (f := 50) rfl ?_); refine goesL_ (some 5) rfl rfl Tryz.func50 (by kernel_rfl) rfl #[.agg #[.slice A0_0 l0_0.length c0_0, .bool a0_1, .int .i64 a0_2, .int .i64 a0_3]] rfl (by (try simp only [List.map_toArray, List.map_cons, List.map_nil]); first | done | rfl | (simp only [List.length_drop, List.length_take]; rfl)) ?_; (with_reducible refine (disk_Check.calls _ _ l0_0 a0_1 a0_2 a0_3 t151 _ ?side1 ?side2 A2.out).mono ?_); (case side1 => repeat (first | exact (Kd.C_below HR0_0.out HB.out) | (with_reducible refine Kd.C_alloc ?_ _) | (with_reducible refine Kd.C_drewN ?_ _) | (with_reducible refine Kd.C_drew ?_))); (case side2 => exact HC0_0.out); rintro e w12 ⟨rfl, hb⟩; refine ⟨_, rfl, ?_⟩; have n0_ := Aside0.mk (blk_below (g := gb150) (o := .cells #[.slice A0_0 l0_0.length c0_0, .bool a0_1, .int .i64 a0_2, .int .i64 a0_3, .int .i64 a0_4, .int .u64 a0_5, .int .u64 a0_6, .bool a0_7] 30 (0, 0)) (by (with_reducible repeat (first | refine blk_drewN ?_ _ | refine blk_drew ?_ | refine blk_alloc ?_ _)); exact BK150.out) hb); have n1_ := Aside0.mk (below_step (by repeat (first | (with_reducible first | exact HB.out | apply below_alloc | apply pw_below_drewN | apply below_drew1 | refine below_set ?_ GE150.out) | exact HB.out)) hb); clear BK150; clear HB; have BK150 := n0_; have HB := n1_; clear n0_ n1_; (try clear hb); (try clear hb2); (try clear hk); (try clear hi); have hcz13_0 : w12.cell? ⟨gb150, 0, none⟩ = some (.slice A0_0 l0_0.length c0_0) := (blk_cell BK150.out 0).trans rfl; have hcz13_1 : w12.cell? ⟨gb150, 1, none⟩ = some (.bool a0_1) := (blk_cell BK150.out 1).trans rfl; have hcz13_2 : w12.cell? ⟨gb150, 2, none⟩ = some (.int .i64 a0_2) := (blk_cell BK150.out 2).trans rfl; have hcz13_3 : w12.cell? ⟨gb150, 3, none⟩ = some (.int .i64 a0_3) := (blk_cell BK150.out 3).trans rfl; have hcz13_4 : w12.cell? ⟨gb150, 4, none⟩ = some (.int .i64 a0_4) := (blk_cell BK150.out 4).trans rfl; have hcz13_5 : w12.cell? ⟨gb150, 5, none⟩ = some (.int .u64 a0_5) := (blk_cell BK150.out 5).trans rfl; have hcz13_6 : w12.cell? ⟨gb150, 6, none⟩ = some (.int .u64 a0_6) := (blk_cell BK150.out 6).trans rfl; have hcz13_7 : w12.cell? ⟨gb150, 7, none⟩ = some (.bool a0_7) := (blk_cell BK150.out 7).trans rfl; have hfz13_0 := blk_frozen BK150.out 0; have hfz13_1 := blk_frozen BK150.out 1; have hfz13_2 := blk_frozen BK150.out 2; have hfz13_3 := blk_frozen BK150.out 3; have hfz13_4 := blk_frozen BK150.out 4; have hfz13_5 := blk_frozen BK150.out 5; have hfz13_6 := blk_frozen BK150.out 6; have hfz13_7 := blk_frozen BK150.out 7))
        go_ret
        exact ⟨by first | rfl | (simp [errW_none, errW_some] <;> rfl) | (simp [*, errW_none, errW_some] <;> rfl), by repeat (first | (with_reducible first | exact HB.out | apply below_alloc | apply pw_below_drewN | apply below_drew1 | refine below_set ?_ GE150.out) | exact HB.out)⟩
      · rw [if_neg c9] at H
        have c9b0 : decide (262144 < a0_4) = false := decide_eq_false c9
        clear c9
        by_cases c14 : a0_5 > a0_6
        · rw [if_pos c14] at H
          have c14b0 : decide (a0_6 < a0_5) = true := decide_eq_true c14
          clear c14
          obtain rfl := Option.some.inj H
          go_enter Tryz.func33, Tryz.ntmps33
          go_wp2_with (first | ((with_reducible refine gate_dst (N := 1) rfl ?_); refine box_event ?hg (N := 1) ?hd (cs := #[.slice A0_0 l0_0.length c0_0, .bool a0_1, .int .i64 a0_2, .int .i64 a0_3, .int .i64 a0_4, .int .u64 a0_5, .int .u64 a0_6, .bool a0_7]) (t := 30) ?hr ?_; (case hd => rfl); (case hg => rfl); (case hr => first | (go_simp; done) | (go_simp; rfl)); intro gb150 hg w15 hbox hb; have n0_ := Aside0.mk (below_step (by repeat (first | (with_reducible first | exact HB.out | apply below_alloc | apply pw_below_drewN | apply below_drew1) | exact HB.out)) hb); have n1_ := Aside0.mk (hbox); have n2_ := Aside0.mk ((by rw [hg]; exact (below_size (by repeat (first | (with_reducible first | exact HB.out | apply below_alloc | apply pw_below_drewN | apply below_drew1) | exact HB.out))) : w.heap.size ≤ gb150)); have n3_ := Aside0.mk ((by rw [hg]; exact (below_size (by repeat (first | (with_reducible first | exact HB.out | apply below_alloc | apply pw_below_drewN | apply below_drew1) | exact HB.out))) : w.heap.size ≤ gb150)); clear HB; have HB := n0_; have BK150 := n1_; have GW150 := n2_; have GE150 := n3_; clear n0_ n1_ n2_ n3_; clear hb hbox hg; have hcz16_0 : w15.cell? ⟨gb150, 0, none⟩ = some (.slice A0_0 l0_0.length c0_0) := (blk_cell BK150.out 0).trans rfl; have hcz16_1 : w15.cell? ⟨gb150, 1, none⟩ = some (.bool a0_1) := (blk_cell BK150.out 1).trans rfl; have hcz16_2 : w15.cell? ⟨gb150, 2, none⟩ = some (.int .i64 a0_2) := (blk_cell BK150.out 2).trans rfl; have hcz16_3 : w15.cell? ⟨gb150, 3, none⟩ = some (.int .i64 a0_3) := (blk_cell BK150.out 3).trans rfl; have hcz16_4 : w15.cell? ⟨gb150, 4, none⟩ = some (.int .i64 a0_4) := (blk_cell BK150.out 4).trans rfl; have hcz16_5 : w15.cell? ⟨gb150, 5, none⟩ = some (.int .u64 a0_5) := (blk_cell BK150.out 5).trans rfl; have hcz16_6 : w15.cell? ⟨gb150, 6, none⟩ = some (.int .u64 a0_6) := (blk_cell BK150.out 6).trans rfl; have hcz16_7 : w15.cell? ⟨gb150, 7, none⟩ = some (.bool a0_7) := (blk_cell BK150.out 7).trans rfl; have hfz16_0 := blk_frozen BK150.out 0; have hfz16_1 := blk_frozen BK150.out 1; have hfz16_2 := blk_frozen BK150.out 2; have hfz16_3 := blk_frozen BK150.out 3; have hfz16_4 := blk_frozen BK150.out 4; have hfz16_5 := blk_frozen BK150.out 5; have hfz16_6 := blk_frozen BK150.out 6; have hfz16_7 := blk_frozen BK150.out 7) | ((with_reducible refine gate_callee (f := 50) rfl ?_); refine goesL_ (some 5) rfl rfl Tryz.func50 (by kernel_rfl) rfl #[.agg #[.slice A0_0 l0_0.length c0_0, .bool a0_1, .int .i64 a0_2, .int .i64 a0_3]] rfl (by (try simp only [List.map_toArray, List.map_cons, List.map_nil]); first | done | rfl | (simp only [List.length_drop, List.length_take]; rfl)) ?_; (with_reducible refine (disk_Check.calls _ _ l0_0 a0_1 a0_2 a0_3 t151 _ ?side1 ?side2 A2.out).mono ?_); (case side1 => repeat (first | exact (Kd.C_below HR0_0.out HB.out) | (with_reducible refine Kd.C_alloc ?_ _) | (with_reducible refine Kd.C_drewN ?_ _) | (with_reducible refine Kd.C_drew ?_))); (case side2 => exact HC0_0.out); rintro e w17 ⟨rfl, hb⟩; refine ⟨_, rfl, ?_⟩; have n0_ := Aside0.mk (blk_below (g := gb150) (o := .cells #[.slice A0_0 l0_0.length c0_0, .bool a0_1, .int .i64 a0_2, .int .i64 a0_3, .int .i64 a0_4, .int .u64 a0_5, .int .u64 a0_6, .bool a0_7] 30 (0, 0)) (by (with_reducible repeat (first | refine blk_drewN ?_ _ | refine blk_drew ?_ | refine blk_alloc ?_ _)); exact BK150.out) hb); have n1_ := Aside0.mk (below_step (by repeat (first | (with_reducible first | exact HB.out | apply below_alloc | apply pw_below_drewN | apply below_drew1 | refine below_set ?_ GE150.out) | exact HB.out)) hb); clear BK150; clear HB; have BK150 := n0_; have HB := n1_; clear n0_ n1_; (try clear hb); (try clear hb2); (try clear hk); (try clear hi); have hcz18_0 : w17.cell? ⟨gb150, 0, none⟩ = some (.slice A0_0 l0_0.length c0_0) := (blk_cell BK150.out 0).trans rfl; have hcz18_1 : w17.cell? ⟨gb150, 1, none⟩ = some (.bool a0_1) := (blk_cell BK150.out 1).trans rfl; have hcz18_2 : w17.cell? ⟨gb150, 2, none⟩ = some (.int .i64 a0_2) := (blk_cell BK150.out 2).trans rfl; have hcz18_3 : w17.cell? ⟨gb150, 3, none⟩ = some (.int .i64 a0_3) := (blk_cell BK150.out 3).trans rfl; have hcz18_4 : w17.cell? ⟨gb150, 4, none⟩ = some (.int .i64 a0_4) := (blk_cell BK150.out 4).trans rfl; have hcz18_5 : w17.cell? ⟨gb150, 5, none⟩ = some (.int .u64 a0_5) := (blk_cell BK150.out 5).trans rfl; have hcz18_6 : w17.cell? ⟨gb150, 6, none⟩ = some (.int .u64 a0_6) := (blk_cell BK150.out 6).trans rfl; have hcz18_7 : w17.cell? ⟨gb150, 7, none⟩ = some (.bool a0_7) := (blk_cell BK150.out 7).trans rfl; have hfz18_0 := blk_frozen BK150.out 0; have hfz18_1 := blk_frozen BK150.out 1; have hfz18_2 := blk_frozen BK150.out 2; have hfz18_3 := blk_frozen BK150.out 3; have hfz18_4 := blk_frozen BK150.out 4; have hfz18_5 := blk_frozen BK150.out 5; have hfz18_6 := blk_frozen BK150.out 6; have hfz18_7 := blk_frozen BK150.out 7))
          go_ret
          exact ⟨by first | rfl | (simp [errW_none, errW_some] <;> rfl) | (simp [*, errW_none, errW_some] <;> rfl), by repeat (first | (with_reducible first | exact HB.out | apply below_alloc | apply pw_below_drewN | apply below_drew1 | refine below_set ?_ GE150.out) | exact HB.out)⟩
        · rw [if_neg c14] at H
          have c14b0 : decide (a0_6 < a0_5) = false := decide_eq_false c14
          clear c14
          by_cases c19 : a0_6 > 4611686018427387904
          · rw [if_pos c19] at H
            have c19b0 : decide (4611686018427387904 < a0_6) = true := decide_eq_true c19
            clear c19
            obtain rfl := Option.some.inj H
            go_enter Tryz.func33, Tryz.ntmps33
            go_wp2_with (first | ((with_reducible refine gate_dst (N := 1) rfl ?_); refine box_event ?hg (N := 1) ?hd (cs := #[.slice A0_0 l0_0.length c0_0, .bool a0_1, .int .i64 a0_2, .int .i64 a0_3, .int .i64 a0_4, .int .u64 a0_5, .int .u64 a0_6, .bool a0_7]) (t := 30) ?hr ?_; (case hd => rfl); (case hg => rfl); (case hr => first | (go_simp; done) | (go_simp; rfl)); intro gb150 hg w20 hbox hb; have n0_ := Aside0.mk (below_step (by repeat (first | (with_reducible first | exact HB.out | apply below_alloc | apply pw_below_drewN | apply below_drew1) | exact HB.out)) hb); have n1_ := Aside0.mk (hbox); have n2_ := Aside0.mk ((by rw [hg]; exact (below_size (by repeat (first | (with_reducible first | exact HB.out | apply below_alloc | apply pw_below_drewN | apply below_drew1) | exact HB.out))) : w.heap.size ≤ gb150)); have n3_ := Aside0.mk ((by rw [hg]; exact (below_size (by repeat (first | (with_reducible first | exact HB.out | apply below_alloc | apply pw_below_drewN | apply below_drew1) | exact HB.out))) : w.heap.size ≤ gb150)); clear HB; have HB := n0_; have BK150 := n1_; have GW150 := n2_; have GE150 := n3_; clear n0_ n1_ n2_ n3_; clear hb hbox hg; have hcz21_0 : w20.cell? ⟨gb150, 0, none⟩ = some (.slice A0_0 l0_0.length c0_0) := (blk_cell BK150.out 0).trans rfl; have hcz21_1 : w20.cell? ⟨gb150, 1, none⟩ = some (.bool a0_1) := (blk_cell BK150.out 1).trans rfl; have hcz21_2 : w20.cell? ⟨gb150, 2, none⟩ = some (.int .i64 a0_2) := (blk_cell BK150.out 2).trans rfl; have hcz21_3 : w20.cell? ⟨gb150, 3, none⟩ = some (.int .i64 a0_3) := (blk_cell BK150.out 3).trans rfl; have hcz21_4 : w20.cell? ⟨gb150, 4, none⟩ = some (.int .i64 a0_4) := (blk_cell BK150.out 4).trans rfl; have hcz21_5 : w20.cell? ⟨gb150, 5, none⟩ = some (.int .u64 a0_5) := (blk_cell BK150.out 5).trans rfl; have hcz21_6 : w20.cell? ⟨gb150, 6, none⟩ = some (.int .u64 a0_6) := (blk_cell BK150.out 6).trans rfl; have hcz21_7 : w20.cell? ⟨gb150, 7, none⟩ = some (.bool a0_7) := (blk_cell BK150.out 7).trans rfl; have hfz21_0 := blk_frozen BK150.out 0; have hfz21_1 := blk_frozen BK150.out 1; have hfz21_2 := blk_frozen BK150.out 2; have hfz21_3 := blk_frozen BK150.out 3; have hfz21_4 := blk_frozen BK150.out 4; have hfz21_5 := blk_frozen BK150.out 5; have hfz21_6 := blk_frozen BK150.out 6; have hfz21_7 := blk_frozen BK150.out 7) | ((with_reducible refine gate_callee (f := 50) rfl ?_); refine goesL_ (some 5) rfl rfl Tryz.func50 (by kernel_rfl) rfl #[.agg #[.slice A0_0 l0_0.length c0_0, .bool a0_1, .int .i64 a0_2, .int .i64 a0_3]] rfl (by (try simp only [List.map_toArray, List.map_cons, List.map_nil]); first | done | rfl | (simp only [List.length_drop, List.length_take]; rfl)) ?_; (with_reducible refine (disk_Check.calls _ _ l0_0 a0_1 a0_2 a0_3 t151 _ ?side1 ?side2 A2.out).mono ?_); (case side1 => repeat (first | exact (Kd.C_below HR0_0.out HB.out) | (with_reducible refine Kd.C_alloc ?_ _) | (with_reducible refine Kd.C_drewN ?_ _) | (with_reducible refine Kd.C_drew ?_))); (case side2 => exact HC0_0.out); rintro e w22 ⟨rfl, hb⟩; refine ⟨_, rfl, ?_⟩; have n0_ := Aside0.mk (blk_below (g := gb150) (o := .cells #[.slice A0_0 l0_0.length c0_0, .bool a0_1, .int .i64 a0_2, .int .i64 a0_3, .int .i64 a0_4, .int .u64 a0_5, .int .u64 a0_6, .bool a0_7] 30 (0, 0)) (by (with_reducible repeat (first | refine blk_drewN ?_ _ | refine blk_drew ?_ | refine blk_alloc ?_ _)); exact BK150.out) hb); have n1_ := Aside0.mk (below_step (by repeat (first | (with_reducible first | exact HB.out | apply below_alloc | apply pw_below_drewN | apply below_drew1 | refine below_set ?_ GE150.out) | exact HB.out)) hb); clear BK150; clear HB; have BK150 := n0_; have HB := n1_; clear n0_ n1_; (try clear hb); (try clear hb2); (try clear hk); (try clear hi); have hcz23_0 : w22.cell? ⟨gb150, 0, none⟩ = some (.slice A0_0 l0_0.length c0_0) := (blk_cell BK150.out 0).trans rfl; have hcz23_1 : w22.cell? ⟨gb150, 1, none⟩ = some (.bool a0_1) := (blk_cell BK150.out 1).trans rfl; have hcz23_2 : w22.cell? ⟨gb150, 2, none⟩ = some (.int .i64 a0_2) := (blk_cell BK150.out 2).trans rfl; have hcz23_3 : w22.cell? ⟨gb150, 3, none⟩ = some (.int .i64 a0_3) := (blk_cell BK150.out 3).trans rfl; have hcz23_4 : w22.cell? ⟨gb150, 4, none⟩ = some (.int .i64 a0_4) := (blk_cell BK150.out 4).trans rfl; have hcz23_5 : w22.cell? ⟨gb150, 5, none⟩ = some (.int .u64 a0_5) := (blk_cell BK150.out 5).trans rfl; have hcz23_6 : w22.cell? ⟨gb150, 6, none⟩ = some (.int .u64 a0_6) := (blk_cell BK150.out 6).trans rfl; have hcz23_7 : w22.cell? ⟨gb150, 7, none⟩ = some (.bool a0_7) := (blk_cell BK150.out 7).trans rfl; have hfz23_0 := blk_frozen BK150.out 0; have hfz23_1 := blk_frozen BK150.out 1; have hfz23_2 := blk_frozen BK150.out 2; have hfz23_3 := blk_frozen BK150.out 3; have hfz23_4 := blk_frozen BK150.out 4; have hfz23_5 := blk_frozen BK150.out 5; have hfz23_6 := blk_frozen BK150.out 6; have hfz23_7 := blk_frozen BK150.out 7))
            go_ret
            exact ⟨by first | rfl | (simp [errW_none, errW_some] <;> rfl) | (simp [*, errW_none, errW_some] <;> rfl), by repeat (first | (with_reducible first | exact HB.out | apply below_alloc | apply pw_below_drewN | apply below_drew1 | refine below_set ?_ GE150.out) | exact HB.out)⟩
          · rw [if_neg c19] at H
            have c19b0 : decide (4611686018427387904 < a0_6) = false := decide_eq_false c19
            clear c19
            obtain rfl := Option.some.inj H
            go_enter Tryz.func33, Tryz.ntmps33
            go_wp2_with (first | ((with_reducible refine gate_dst (N := 1) rfl ?_); refine box_event ?hg (N := 1) ?hd (cs := #[.slice A0_0 l0_0.length c0_0, .bool a0_1, .int .i64 a0_2, .int .i64 a0_3, .int .i64 a0_4, .int .u64 a0_5, .int .u64 a0_6, .bool a0_7]) (t := 30) ?hr ?_; (case hd => rfl); (case hg => rfl); (case hr => first | (go_simp; done) | (go_simp; rfl)); intro gb150 hg w24 hbox hb; have n0_ := Aside0.mk (below_step (by repeat (first | (with_reducible first | exact HB.out | apply below_alloc | apply pw_below_drewN | apply below_drew1) | exact HB.out)) hb); have n1_ := Aside0.mk (hbox); have n2_ := Aside0.mk ((by rw [hg]; exact (below_size (by repeat (first | (with_reducible first | exact HB.out | apply below_alloc | apply pw_below_drewN | apply below_drew1) | exact HB.out))) : w.heap.size ≤ gb150)); have n3_ := Aside0.mk ((by rw [hg]; exact (below_size (by repeat (first | (with_reducible first | exact HB.out | apply below_alloc | apply pw_below_drewN | apply below_drew1) | exact HB.out))) : w.heap.size ≤ gb150)); clear HB; have HB := n0_; have BK150 := n1_; have GW150 := n2_; have GE150 := n3_; clear n0_ n1_ n2_ n3_; clear hb hbox hg; have hcz25_0 : w24.cell? ⟨gb150, 0, none⟩ = some (.slice A0_0 l0_0.length c0_0) := (blk_cell BK150.out 0).trans rfl; have hcz25_1 : w24.cell? ⟨gb150, 1, none⟩ = some (.bool a0_1) := (blk_cell BK150.out 1).trans rfl; have hcz25_2 : w24.cell? ⟨gb150, 2, none⟩ = some (.int .i64 a0_2) := (blk_cell BK150.out 2).trans rfl; have hcz25_3 : w24.cell? ⟨gb150, 3, none⟩ = some (.int .i64 a0_3) := (blk_cell BK150.out 3).trans rfl; have hcz25_4 : w24.cell? ⟨gb150, 4, none⟩ = some (.int .i64 a0_4) := (blk_cell BK150.out 4).trans rfl; have hcz25_5 : w24.cell? ⟨gb150, 5, none⟩ = some (.int .u64 a0_5) := (blk_cell BK150.out 5).trans rfl; have hcz25_6 : w24.cell? ⟨gb150, 6, none⟩ = some (.int .u64 a0_6) := (blk_cell BK150.out 6).trans rfl; have hcz25_7 : w24.cell? ⟨gb150, 7, none⟩ = some (.bool a0_7) := (blk_cell BK150.out 7).trans rfl; have hfz25_0 := blk_frozen BK150.out 0; have hfz25_1 := blk_frozen BK150.out 1; have hfz25_2 := blk_frozen BK150.out 2; have hfz25_3 := blk_frozen BK150.out 3; have hfz25_4 := blk_frozen BK150.out 4; have hfz25_5 := blk_frozen BK150.out 5; have hfz25_6 := blk_frozen BK150.out 6; have hfz25_7 := blk_frozen BK150.out 7) | ((with_reducible refine gate_callee (f := 50) rfl ?_); refine goesL_ (some 5) rfl rfl Tryz.func50 (by kernel_rfl) rfl #[.agg #[.slice A0_0 l0_0.length c0_0, .bool a0_1, .int .i64 a0_2, .int .i64 a0_3]] rfl (by (try simp only [List.map_toArray, List.map_cons, List.map_nil]); first | done | rfl | (simp only [List.length_drop, List.length_take]; rfl)) ?_; (with_reducible refine (disk_Check.calls _ _ l0_0 a0_1 a0_2 a0_3 t151 _ ?side1 ?side2 A2.out).mono ?_); (case side1 => repeat (first | exact (Kd.C_below HR0_0.out HB.out) | (with_reducible refine Kd.C_alloc ?_ _) | (with_reducible refine Kd.C_drewN ?_ _) | (with_reducible refine Kd.C_drew ?_))); (case side2 => exact HC0_0.out); rintro e w26 ⟨rfl, hb⟩; refine ⟨_, rfl, ?_⟩; have n0_ := Aside0.mk (blk_below (g := gb150) (o := .cells #[.slice A0_0 l0_0.length c0_0, .bool a0_1, .int .i64 a0_2, .int .i64 a0_3, .int .i64 a0_4, .int .u64 a0_5, .int .u64 a0_6, .bool a0_7] 30 (0, 0)) (by (with_reducible repeat (first | refine blk_drewN ?_ _ | refine blk_drew ?_ | refine blk_alloc ?_ _)); exact BK150.out) hb); have n1_ := Aside0.mk (below_step (by repeat (first | (with_reducible first | exact HB.out | apply below_alloc | apply pw_below_drewN | apply below_drew1 | refine below_set ?_ GE150.out) | exact HB.out)) hb); clear BK150; clear HB; have BK150 := n0_; have HB := n1_; clear n0_ n1_; (try clear hb); (try clear hb2); (try clear hk); (try clear hi); have hcz27_0 : w26.cell? ⟨gb150, 0, none⟩ = some (.slice A0_0 l0_0.length c0_0) := (blk_cell BK150.out 0).trans rfl; have hcz27_1 : w26.cell? ⟨gb150, 1, none⟩ = some (.bool a0_1) := (blk_cell BK150.out 1).trans rfl; have hcz27_2 : w26.cell? ⟨gb150, 2, none⟩ = some (.int .i64 a0_2) := (blk_cell BK150.out 2).trans rfl; have hcz27_3 : w26.cell? ⟨gb150, 3, none⟩ = some (.int .i64 a0_3) := (blk_cell BK150.out 3).trans rfl; have hcz27_4 : w26.cell? ⟨gb150, 4, none⟩ = some (.int .i64 a0_4) := (blk_cell BK150.out 4).trans rfl; have hcz27_5 : w26.cell? ⟨gb150, 5, none⟩ = some (.int .u64 a0_5) := (blk_cell BK150.out 5).trans rfl; have hcz27_6 : w26.cell? ⟨gb150, 6, none⟩ = some (.int .u64 a0_6) := (blk_cell BK150.out 6).trans rfl; have hcz27_7 : w26.cell? ⟨gb150, 7, none⟩ = some (.bool a0_7) := (blk_cell BK150.out 7).trans rfl; have hfz27_0 := blk_frozen BK150.out 0; have hfz27_1 := blk_frozen BK150.out 1; have hfz27_2 := blk_frozen BK150.out 2; have hfz27_3 := blk_frozen BK150.out 3; have hfz27_4 := blk_frozen BK150.out 4; have hfz27_5 := blk_frozen BK150.out 5; have hfz27_6 := blk_frozen BK150.out 6; have hfz27_7 := blk_frozen BK150.out 7))
            go_ret
            exact ⟨by first | rfl | (simp [errW_none, errW_some] <;> rfl) | (simp [*, errW_none, errW_some] <;> rfl), by repeat (first | (with_reducible first | exact HB.out | apply below_alloc | apply pw_below_drewN | apply below_drew1 | refine below_set ?_ GE150.out) | exact HB.out)⟩
  · rw [if_neg c3] at H
    have c3b0 : (t151 == 0) = false := beq_eq_false_iff_ne.mpr c3
    have c3b1 : (t151 != 0) = true := bne_iff_ne.mpr c3
    obtain rfl := Option.some.inj H
    go_enter Tryz.func33, Tryz.ntmps33
    go_wp2_with (first | ((with_reducible refine gate_dst (N := 1) rfl ?_); refine box_event ?hg (N := 1) ?hd (cs := #[.slice A0_0 l0_0.length c0_0, .bool a0_1, .int .i64 a0_2, .int .i64 a0_3, .int .i64 a0_4, .int .u64 a0_5, .int .u64 a0_6, .bool a0_7]) (t := 30) ?hr ?_; (case hd => rfl); (case hg => rfl); (case hr => first | (go_simp; done) | (go_simp; rfl)); intro gb150 hg w28 hbox hb; have n0_ := Aside0.mk (below_step (by repeat (first | (with_reducible first | exact HB.out | apply below_alloc | apply pw_below_drewN | apply below_drew1) | exact HB.out)) hb); have n1_ := Aside0.mk (hbox); have n2_ := Aside0.mk ((by rw [hg]; exact (below_size (by repeat (first | (with_reducible first | exact HB.out | apply below_alloc | apply pw_below_drewN | apply below_drew1) | exact HB.out))) : w.heap.size ≤ gb150)); have n3_ := Aside0.mk ((by rw [hg]; exact (below_size (by repeat (first | (with_reducible first | exact HB.out | apply below_alloc | apply pw_below_drewN | apply below_drew1) | exact HB.out))) : w.heap.size ≤ gb150)); clear HB; have HB := n0_; have BK150 := n1_; have GW150 := n2_; have GE150 := n3_; clear n0_ n1_ n2_ n3_; clear hb hbox hg; have hcz29_0 : w28.cell? ⟨gb150, 0, none⟩ = some (.slice A0_0 l0_0.length c0_0) := (blk_cell BK150.out 0).trans rfl; have hcz29_1 : w28.cell? ⟨gb150, 1, none⟩ = some (.bool a0_1) := (blk_cell BK150.out 1).trans rfl; have hcz29_2 : w28.cell? ⟨gb150, 2, none⟩ = some (.int .i64 a0_2) := (blk_cell BK150.out 2).trans rfl; have hcz29_3 : w28.cell? ⟨gb150, 3, none⟩ = some (.int .i64 a0_3) := (blk_cell BK150.out 3).trans rfl; have hcz29_4 : w28.cell? ⟨gb150, 4, none⟩ = some (.int .i64 a0_4) := (blk_cell BK150.out 4).trans rfl; have hcz29_5 : w28.cell? ⟨gb150, 5, none⟩ = some (.int .u64 a0_5) := (blk_cell BK150.out 5).trans rfl; have hcz29_6 : w28.cell? ⟨gb150, 6, none⟩ = some (.int .u64 a0_6) := (blk_cell BK150.out 6).trans rfl; have hcz29_7 : w28.cell? ⟨gb150, 7, none⟩ = some (.bool a0_7) := (blk_cell BK150.out 7).trans rfl; have hfz29_0 := blk_frozen BK150.out 0; have hfz29_1 := blk_frozen BK150.out 1; have hfz29_2 := blk_frozen BK150.out 2; have hfz29_3 := blk_frozen BK150.out 3; have hfz29_4 := blk_frozen BK150.out 4; have hfz29_5 := blk_frozen BK150.out 5; have hfz29_6 := blk_frozen BK150.out 6; have hfz29_7 := blk_frozen BK150.out 7) | ((with_reducible refine gate_callee (f := 50) rfl ?_); refine goesL_ (some 5) rfl rfl Tryz.func50 (by kernel_rfl) rfl #[.agg #[.slice A0_0 l0_0.length c0_0, .bool a0_1, .int .i64 a0_2, .int .i64 a0_3]] rfl (by (try simp only [List.map_toArray, List.map_cons, List.map_nil]); first | done | rfl | (simp only [List.length_drop, List.length_take]; rfl)) ?_; (with_reducible refine (disk_Check.calls _ _ l0_0 a0_1 a0_2 a0_3 t151 _ ?side1 ?side2 A2.out).mono ?_); (case side1 => repeat (first | exact (Kd.C_below HR0_0.out HB.out) | (with_reducible refine Kd.C_alloc ?_ _) | (with_reducible refine Kd.C_drewN ?_ _) | (with_reducible refine Kd.C_drew ?_))); (case side2 => exact HC0_0.out); rintro e w30 ⟨rfl, hb⟩; refine ⟨_, rfl, ?_⟩; have n0_ := Aside0.mk (blk_below (g := gb150) (o := .cells #[.slice A0_0 l0_0.length c0_0, .bool a0_1, .int .i64 a0_2, .int .i64 a0_3, .int .i64 a0_4, .int .u64 a0_5, .int .u64 a0_6, .bool a0_7] 30 (0, 0)) (by (with_reducible repeat (first | refine blk_drewN ?_ _ | refine blk_drew ?_ | refine blk_alloc ?_ _)); exact BK150.out) hb); have n1_ := Aside0.mk (below_step (by repeat (first | (with_reducible first | exact HB.out | apply below_alloc | apply pw_below_drewN | apply below_drew1 | refine below_set ?_ GE150.out) | exact HB.out)) hb); clear BK150; clear HB; have BK150 := n0_; have HB := n1_; clear n0_ n1_; (try clear hb); (try clear hb2); (try clear hk); (try clear hi)))
    go_ret
    exact ⟨by first | rfl | (simp [errW_none, errW_some] <;> rfl) | (simp [*, errW_none, errW_some] <;> rfl), by repeat (first | (with_reducible first | exact HB.out | apply below_alloc | apply pw_below_drewN | apply below_drew1 | refine below_set ?_ GE150.out) | exact HB.out)⟩
end Go.Proofs.YtanonhipicoigaaGreatDoor.U
namespace Go.Proofs.YtanonhipicoigaaGreatDoor.U
open Go.RowKit Go.Proofs.YtanonhipicoigaaGreatDoorW.PrintWords Go.Proofs.YtanonhipicoigaaGreatDoorW.PrintLast Go.Proofs.YtanonhipicoigaaGreatDoorW.PrintMore Go.Proofs.YtanonhipicoigaaGreatDoor.Sp Go.Proofs.YtanonhipicoigaaGreatDoor.SegP
set_option linter.unusedVariables false
set_option linter.unusedSimpArgs false
/-- A log that is right. -/
def okL (L : Lg) : Prop := rightF L.l = true ∧ 1 ≤ L.size ∧ L.size ≤ 262144 ∧ L.fr ≤ L.nx ∧ L.nx ≤ 4611686018427387904
open Classical in
theorem check_eq (L : Lg) : segment_Check.f L.l L.dn L.fu L.fa L.size L.fr L.nx L.br = some (if okL L then 0 else 6) := by
  unfold segment_Check.f disk_Check.f okL
  by_cases h : rightF L.l = true
  · simp only [if_pos h, Option.bind_some, if_true]
    by_cases h1 : L.size < 1
    · rw [if_pos h1, if_neg (fun x => by omega)]
    · rw [if_neg h1]
      by_cases h2 : L.size > 262144
      · rw [if_pos h2, if_neg (fun x => by omega)]
      · rw [if_neg h2]
        by_cases h3 : L.fr > L.nx
        · rw [if_pos h3, if_neg (fun x => by omega)]
        · rw [if_neg h3]
          by_cases h4 : L.nx > 4611686018427387904
          · rw [if_pos h4, if_neg (fun x => by omega)]
          · rw [if_neg h4, if_pos ⟨h, by omega, by omega, by omega, by omega⟩]
  · simp only [if_neg h, Option.bind_some]
    rw [if_neg (by decide), if_neg (fun x => h x.1)]
open Classical in
/-- What Append answers. -/
noncomputable def appendL (L : Lg) (d : ByteArray) : Lg × Int := if okL L then appendDo L d else (Lz, 6)
set_option maxHeartbeats 8000000 in
set_option maxRecDepth 100000 in
theorem append_any0 (A : Option Addr) (c : Nat) (l : List S67) (dn : Bool) (fu fa size fr : Int) (n : Nat) (br : Bool) (d : ByteArray) (w : World) (hr : Kd.C k67 w A l.length l) (hc : l.length ≤ c) (hG : Gl w) (hn : n < 18446744073709551616) :
    Calls Tryz.prog 31 #[.agg #[.slice A l.length c, .bool dn, .int .i64 fu, .int .i64 fa, .int .i64 size, .int .u64 fr, .int .u64 (n : Int), .bool br], .string d] w fun e w' => ∃ A' c', e = .returned (.tuple #[.agg (lgc A' c' (appendL ⟨l, dn, fu, fa, size, fr, (n : Int), br⟩ d).1).toArray, .int .i64 (appendL ⟨l, dn, fu, fa, size, fr, (n : Int), br⟩ d).2])
      ∧ Aside0 (Sep w w' [rowF A' c' (appendL ⟨l, dn, fu, fa, size, fr, (n : Int), br⟩ d).1.l]) := by
  have HRp := Aside0.mk hr
  have HCp := Aside0.mk hc
  have HG := Aside0.mk hG
  clear hr hc hG
  obtain ⟨O, hO⟩ : ∃ O, O = appendL ⟨l, dn, fu, fa, size, fr, (n : Int), br⟩ d := ⟨_, rfl⟩
  rw [← hO]
  have HO := Aside0.mk hO
  clear hO
  have H := Aside0.mk (Sep.start w)
  go_enter Tryz.func31, Tryz.ntmps31
  go_wp2_with (first
 | ((with_reducible refine gate_dst (N := 2) rfl ?_);
    refine new_box rfl H (cs := [.slice A l.length c, .bool dn, .int .i64 fu, .int .i64 fa, .int .i64 size, .int .u64 fr, .int .u64 (n : Int), .bool br]) (t := 30) ?hr ?_;
    (case hr => first | (go_simp; done) | (go_simp; rfl));
    intro gm wd1 n_;
    simp only [Act.put, List.setIfInBounds_toArray, List.set_cons_zero, List.set_cons_succ];
    clear H;
    have H := n_;
    clear n_;
    have c_m := H.out.cell (g := gm) mem0)
 | ((with_reducible refine gate_dst (N := 3) rfl ?_);
    refine new_box rfl H (cs := [.string d]) (t := 9) ?hr ?_;
    (case hr => first | (go_simp; done) | (go_simp; rfl));
    intro gt wd2 n_;
    simp only [Act.put, List.setIfInBounds_toArray, List.set_cons_zero, List.set_cons_succ];
    clear H c_m;
    have H := n_;
    clear n_;
    have c_t := H.out.cell (g := gt) mem0;
    have c_m := H.out.cell (g := gm) mem1)
 | ((with_reducible refine gate_dst (N := 4) rfl ?_);
    refine new_box rfl H (cs := [.slice none 0 0, .bool false, .int .i64 0, .int .i64 0, .int .i64 0, .int .u64 0, .int .u64 0, .bool false]) (t := 30) ?hr ?_;
    (case hr => first | (go_simp; done) | (go_simp; rfl));
    intro gz wd3 n_;
    simp only [Act.put, List.setIfInBounds_toArray, List.set_cons_zero, List.set_cons_succ];
    clear H c_t c_m;
    have H := n_;
    clear n_;
    have c_z := H.out.cell (g := gz) mem0;
    have c_t := H.out.cell (g := gt) mem1;
    have c_m := H.out.cell (g := gm) mem2)
 | fail)
  by_cases hok : okL ⟨l, dn, fu, fa, size, fr, (n : Int), br⟩
  ·
    refine ((segment_Check.calls A c l dn fu fa size fr (n : Int) br 0 _ (H.out.came HRp.out) HCp.out (by have h := check_eq ⟨l, dn, fu, fa, size, fr, (n : Int), br⟩; rw [if_pos hok] at h; exact h)).mono ?_)
    rintro e wd4 ⟨rfl, hb_⟩
    have n_ : Aside0 (Sep w wd4 [box gz [.slice none 0 0, .bool false, .int .i64 0, .int .i64 0, .int .i64 0, .int .u64 0, .int .u64 0, .bool false] 30, box gt [.string d] 9, box gm [.slice A l.length c, .bool dn, .int .i64 fu, .int .i64 fa, .int .i64 size, .int .u64 fr, .int .u64 (n : Int), .bool br] 30]) := ⟨H.out.step hb_⟩
    clear H c_z c_t c_m
    have H := n_
    clear n_
    have c_z := H.out.cell (g := gz) mem0
    have c_t := H.out.cell (g := gt) mem1
    have c_m := H.out.cell (g := gm) mem2
    clear hb_
    have hlen : l.length ≤ 64 := right_len hok.1
    have hs1 : 1 ≤ size := hok.2.1
    have hs2 : size ≤ 262144 := hok.2.2.1
    have hok1 : rightF l = true := hok.1
    have HOK1 := Aside0.mk hok1
    have hOV : O = appendDo ⟨l, dn, fu, fa, size, fr, (n : Int), br⟩ d := by rw [HO.out, appendL, if_pos hok]
    have HOV := Aside0.mk hOV
    clear hok hok1 HO hOV
    go_wp2_with fail
    refine ((own_any A c l dn fu fa _ (H.out.came HRp.out) hlen).mono ?_)
    rintro e wd5 ⟨A3, c3, rfl, HJ⟩
    have n_ : Aside0 (Sep w wd5 [row k67 67 (.slice A3 (l).length c3) l, box gz [.slice none 0 0, .bool false, .int .i64 0, .int .i64 0, .int .i64 0, .int .u64 0, .int .u64 0, .bool false] 30, box gt [.string d] 9, box gm [.slice A l.length c, .bool dn, .int .i64 fu, .int .i64 fa, .int .i64 size, .int .u64 fr, .int .u64 (n : Int), .bool br] 30]) := ⟨sep_join H.out HJ.out⟩
    clear H c_z c_t c_m
    have H := n_
    clear n_
    have c_z := H.out.cell (g := gz) mem1
    have c_t := H.out.cell (g := gt) mem2
    have c_m := H.out.cell (g := gm) mem3
    have z_m := H.out.frozen (g := gm) mem3
    clear HJ
    go_wp2_with (first
 | ((with_reducible refine gate_store (t := 27) (p := 14) rfl ?_);
    refine put_box (rs1 := [row k67 67 (.slice A3 (l).length c3) l, box gz [.slice none 0 0, .bool false, .int .i64 0, .int .i64 0, .int .i64 0, .int .u64 0, .int .u64 0, .bool false] 30, box gt [.string d] 9, box gm [.slice A3 l.length c3, .bool dn, .int .i64 fu, .int .i64 fa, .int .i64 size, .int .u64 fr, .int .u64 (n : Int), .bool br] 30]) rfl (t := 27) (p := 14) rfl rfl ?hr (H1 := (Sep.set3 (Sep.set3 (Sep.set3 (Sep.set3 H.out 0 (.slice A3 l.length c3) rfl) 1 (.bool dn) rfl) 2 (.int .i64 fu) rfl) 3 (.int .i64 fa) rfl)) ?_;
    (case hr => first | (go_simp; done) | (go_simp; rfl));
    intro wd6 n_;
    clear H c_z c_t c_m z_m;
    have H := n_;
    clear n_;
    have c_z := H.out.cell (g := gz) mem1;
    have c_t := H.out.cell (g := gt) mem2;
    have c_m := H.out.cell (g := gm) mem3;
    have z_m := H.out.frozen (g := gm) mem3)
 | ((with_reducible refine gate_dst (N := 17) rfl ?_);
    refine new_box rfl H (cs := [.slice A3 l.length c3, .bool dn, .int .i64 fu, .int .i64 fa, .int .i64 size, .int .u64 fr, .int .u64 (n : Int), .bool br]) (t := 134) ?hr ?_;
    (case hr => first | (go_simp; done) | (go_simp; rfl));
    intro gl wd7 n_;
    simp only [Act.put, List.setIfInBounds_toArray, List.set_cons_zero, List.set_cons_succ];
    clear H c_z c_t c_m z_m;
    have H := n_;
    clear n_;
    have c_l := H.out.cell (g := gl) mem0;
    have c_z := H.out.cell (g := gz) mem2;
    have c_t := H.out.cell (g := gt) mem3;
    have c_m := H.out.cell (g := gm) mem4;
    have z_m := H.out.frozen (g := gm) mem4)
 | ((with_reducible refine gate_dst (N := 6) rfl ?_);
    refine new_box rfl H (cs := [.pointer none]) (t := 131) ?hr ?_;
    (case hr => first | (go_simp; done) | (go_simp; rfl));
    intro gv wd8 n_;
    simp only [Act.put, List.setIfInBounds_toArray, List.set_cons_zero, List.set_cons_succ];
    clear H c_l c_z c_t c_m z_m;
    have H := n_;
    clear n_;
    have c_v := H.out.cell (g := gv) mem0;
    have z_v := H.out.frozen (g := gv) mem0;
    have c_l := H.out.cell (g := gl) mem1;
    have c_z := H.out.cell (g := gz) mem3;
    have c_t := H.out.cell (g := gt) mem4;
    have c_m := H.out.cell (g := gm) mem5;
    have z_m := H.out.frozen (g := gm) mem5)
 | ((with_reducible refine gate_store (t := 131) (p := 6) rfl ?_);
    refine put_box (rs1 := [box gv [.pointer (some ⟨gl, 0, none⟩)] 131, box gl [.slice A3 l.length c3, .bool dn, .int .i64 fu, .int .i64 fa, .int .i64 size, .int .u64 fr, .int .u64 (n : Int), .bool br] 134, row k67 67 (.slice A3 (l).length c3) l, box gz [.slice none 0 0, .bool false, .int .i64 0, .int .i64 0, .int .i64 0, .int .u64 0, .int .u64 0, .bool false] 30, box gt [.string d] 9, box gm [.slice A3 l.length c3, .bool dn, .int .i64 fu, .int .i64 fa, .int .i64 size, .int .u64 fr, .int .u64 (n : Int), .bool br] 30]) rfl (t := 131) (p := 6) rfl rfl ?hr (H1 := (Sep.set0 H.out 0 (.pointer (some ⟨gl, 0, none⟩)) rfl)) ?_;
    (case hr => first | (go_simp; done) | (go_simp; rfl));
    intro wd9 n_;
    clear H c_v z_v c_l c_z c_t c_m z_m;
    have H := n_;
    clear n_;
    have c_v := H.out.cell (g := gv) mem0;
    have z_v := H.out.frozen (g := gv) mem0;
    have c_l := H.out.cell (g := gl) mem1;
    have c_z := H.out.cell (g := gz) mem3;
    have c_t := H.out.cell (g := gt) mem4;
    have c_m := H.out.cell (g := gm) mem5;
    have z_m := H.out.frozen (g := gm) mem5)
 | fail)
    have hdo := doesL_frame (append_do w gl gm gt gv l dn fu fa size fr n br d A3 c3 HOK1.out (HG.out) hn hs1 hs2) [box gz [.slice none 0 0, .bool false, .int .i64 0, .int .i64 0, .int .i64 0, .int .u64 0, .int .u64 0, .bool false] 30]
    rw [← HOV.out] at hdo
    refine (caught_any hdo (fun args w => by simp [go_sem]) A3 c3 _ ⟨(Sep.front5 (Sep.front5 (Sep.front5 (Sep.front4 (Sep.front1 (Sep.front3 H.out))))))⟩).mono ?_
    rintro e wd10 ⟨A4, c4, rfl, H2⟩
    clear hdo
    have n_ : Aside0 (Sep w wd10 [box gl [.slice A4 O.1.l.length c4, .bool O.1.dn, .int .i64 O.1.fu, .int .i64 O.1.fa, .int .i64 O.1.size, .int .u64 O.1.fr, .int .u64 O.1.nx, .bool O.1.br] 134, row k67 67 (.slice A4 (O.1.l).length c4) O.1.l, box gm [.slice A3 l.length c3, .bool dn, .int .i64 fu, .int .i64 fa, .int .i64 size, .int .u64 fr, .int .u64 (n : Int), .bool br] 30, box gt [.string d] 9, box gv [.pointer (some ⟨gl, 0, none⟩)] 131, box gz [.slice none 0 0, .bool false, .int .i64 0, .int .i64 0, .int .i64 0, .int .u64 0, .int .u64 0, .bool false] 30]) := ⟨H2.out⟩
    clear H c_v z_v c_l c_z c_t c_m z_m
    have H := n_
    clear n_
    have c_l := H.out.cell (g := gl) mem0
    have c_m := H.out.cell (g := gm) mem2
    have c_t := H.out.cell (g := gt) mem3
    have c_v := H.out.cell (g := gv) mem4
    have c_z := H.out.cell (g := gz) mem5
    have z_z := H.out.frozen (g := gz) mem5
    clear H2
    simp only [lgc]
    go_wp2_with (first
 | ((with_reducible refine gate_store (t := 30) (p := 4) rfl ?_);
    refine put_box (rs1 := [box gl [.slice A4 O.1.l.length c4, .bool O.1.dn, .int .i64 O.1.fu, .int .i64 O.1.fa, .int .i64 O.1.size, .int .u64 O.1.fr, .int .u64 O.1.nx, .bool O.1.br] 134, row k67 67 (.slice A4 (O.1.l).length c4) O.1.l, box gm [.slice A3 l.length c3, .bool dn, .int .i64 fu, .int .i64 fa, .int .i64 size, .int .u64 fr, .int .u64 (n : Int), .bool br] 30, box gt [.string d] 9, box gv [.pointer (some ⟨gl, 0, none⟩)] 131, box gz [.slice A4 O.1.l.length c4, .bool O.1.dn, .int .i64 O.1.fu, .int .i64 O.1.fa, .int .i64 O.1.size, .int .u64 O.1.fr, .int .u64 O.1.nx, .bool O.1.br] 30]) rfl (t := 30) (p := 4) rfl rfl ?hr (H1 := (Sep.set5 (Sep.set5 (Sep.set5 (Sep.set5 (Sep.set5 (Sep.set5 (Sep.set5 (Sep.set5 H.out 0 (.slice A4 O.1.l.length c4) rfl) 1 (.bool O.1.dn) rfl) 2 (.int .i64 O.1.fu) rfl) 3 (.int .i64 O.1.fa) rfl) 4 (.int .i64 O.1.size) rfl) 5 (.int .u64 O.1.fr) rfl) 6 (.int .u64 O.1.nx) rfl) 7 (.bool O.1.br) rfl)) ?_;
    (case hr => first | (go_simp; done) | (go_simp; rfl));
    intro wd11 n_;
    clear H c_l c_m c_t c_v c_z z_z;
    have H := n_;
    clear n_;
    have c_l := H.out.cell (g := gl) mem0;
    have c_m := H.out.cell (g := gm) mem2;
    have c_t := H.out.cell (g := gt) mem3;
    have c_v := H.out.cell (g := gv) mem4;
    have c_z := H.out.cell (g := gz) mem5;
    have z_z := H.out.frozen (g := gz) mem5)
 | fail)
    refine bodyPost_ret (results_list (rs := [.cell 4 30, .tmp 5]) rfl (by simp) (.cell gz 30 _ _ _ rfl (H.out.box_ (g := gz) mem5) Tryz.underlying30 rfl info30 (.tmp .nil))) rfl ?_
    exact ⟨A4, c4, rfl, ⟨(Sep.drop0 (Sep.drop2 (Sep.drop3 (Sep.drop4 (Sep.drop5 H.out)))))⟩⟩
  ·
    refine ((segment_Check.calls A c l dn fu fa size fr (n : Int) br 6 _ (H.out.came HRp.out) HCp.out (by have h := check_eq ⟨l, dn, fu, fa, size, fr, (n : Int), br⟩; rw [if_neg hok] at h; exact h)).mono ?_)
    rintro e wd12 ⟨rfl, hb_⟩
    have n_ : Aside0 (Sep w wd12 [box gz [.slice none 0 0, .bool false, .int .i64 0, .int .i64 0, .int .i64 0, .int .u64 0, .int .u64 0, .bool false] 30, box gt [.string d] 9, box gm [.slice A l.length c, .bool dn, .int .i64 fu, .int .i64 fa, .int .i64 size, .int .u64 fr, .int .u64 (n : Int), .bool br] 30]) := ⟨H.out.step hb_⟩
    clear H c_z c_t c_m
    have H := n_
    clear n_
    have c_z := H.out.cell (g := gz) mem0
    have c_t := H.out.cell (g := gt) mem1
    have c_m := H.out.cell (g := gm) mem2
    clear hb_
    have hOV : O = (Lz, 6) := by rw [HO.out, appendL, if_neg hok]
    clear HO hok
    clear c_z c_t c_m
    have c_z := H.out.cell (g := gz) mem0
    have z_z := H.out.frozen (g := gz) mem0
    have c_t := H.out.cell (g := gt) mem1
    have c_m := H.out.cell (g := gm) mem2
    go_wp2_with (first
 | ((with_reducible refine gate_store (t := 30) (p := 4) rfl ?_);
    refine put_box (rs1 := [box gz [.slice none 0 0, .bool false, .int .i64 0, .int .i64 0, .int .i64 0, .int .u64 0, .int .u64 0, .bool false] 30, box gt [.string d] 9, box gm [.slice A l.length c, .bool dn, .int .i64 fu, .int .i64 fa, .int .i64 size, .int .u64 fr, .int .u64 (n : Int), .bool br] 30]) rfl (t := 30) (p := 4) rfl rfl ?hr (H1 := (Sep.set0 (Sep.set0 (Sep.set0 (Sep.set0 (Sep.set0 (Sep.set0 (Sep.set0 (Sep.set0 H.out 0 (.slice none 0 0) rfl) 1 (.bool false) rfl) 2 (.int .i64 0) rfl) 3 (.int .i64 0) rfl) 4 (.int .i64 0) rfl) 5 (.int .u64 0) rfl) 6 (.int .u64 0) rfl) 7 (.bool false) rfl)) ?_;
    (case hr => first | (go_simp; done) | (go_simp; rfl));
    intro wd13 n_;
    clear H c_z z_z c_t c_m;
    have H := n_;
    clear n_;
    have c_z := H.out.cell (g := gz) mem0;
    have z_z := H.out.frozen (g := gz) mem0;
    have c_t := H.out.cell (g := gt) mem1;
    have c_m := H.out.cell (g := gm) mem2)
 | fail)
    refine bodyPost_ret (results_list (rs := [.cell 4 30, .tmp 5]) rfl (by simp) (.cell gz 30 _ _ _ rfl (H.out.box_ (g := gz) mem0) Tryz.underlying30 rfl info30 (.tmp .nil))) rfl ?_
    subst hOV
    exact ⟨none, 0, rfl, ⟨Sep.push_nil (Sep.drop0 (Sep.drop1 (Sep.drop2 H.out)))⟩⟩
theorem append_any (A : Option Addr) (c : Nat) (L : Lg) (d : ByteArray) (w : World) (hr : Kd.C k67 w A L.l.length L.l) (hc : L.l.length ≤ c) (hG : Gl w) (h0 : 0 ≤ L.nx) (hn : L.nx < 18446744073709551616) :
    Calls Tryz.prog 31 #[.agg (lgc A c L).toArray, .string d] w fun e w' => ∃ A' c', e = .returned (.tuple #[.agg (lgc A' c' (appendL L d).1).toArray, .int .i64 (appendL L d).2])
      ∧ Aside0 (Sep w w' [rowF A' c' (appendL L d).1.l]) := by
  obtain ⟨l, dn, fu, fa, size, fr, nx, br⟩ := L
  obtain ⟨n, hnn⟩ := Int.eq_ofNat_of_zero_le h0
  simp only at hnn
  subst hnn
  simp only at hn
  exact append_any0 A c l dn fu fa size fr n br d w hr hc hG (by omega)
end Go.Proofs.YtanonhipicoigaaGreatDoor.U
namespace Go.Proofs.YtanonhipicoigaaGreatDoor.U
open Go.RowKit Go.Proofs.YtanonhipicoigaaGreatDoorW.PrintWords Go.Proofs.YtanonhipicoigaaGreatDoorW.PrintLast Go.Proofs.YtanonhipicoigaaGreatDoorW.PrintMore Go.Proofs.YtanonhipicoigaaGreatDoor.Sp Go.Proofs.YtanonhipicoigaaGreatDoor.SegP
set_option linter.unusedVariables false
set_option linter.unusedSimpArgs false
open Classical in
/-- What Records answers. -/
noncomputable def recordsL (L : Lg) : List S62 × Int := if okL L then (if L.br = true then ([], 6) else if L.dn = true then ([], 17) else (recR (findF L.l).recs (firstN (placesF L.l)), 0)) else ([], 6)
set_option maxHeartbeats 8000000 in
set_option maxRecDepth 100000 in
theorem records_any0 (A : Option Addr) (c : Nat) (l : List S67) (dn : Bool) (fu fa size fr nx : Int) (br : Bool) (w : World) (hr : Kd.C k67 w A l.length l) (hc : l.length ≤ c) (hG : Gl w) :
    Calls Tryz.prog 27 #[.agg #[.slice A l.length c, .bool dn, .int .i64 fu, .int .i64 fa, .int .i64 size, .int .u64 fr, .int .u64 nx, .bool br]] w fun e w' => ∃ A' c', e = .returned (.tuple #[.slice A' (recordsL ⟨l, dn, fu, fa, size, fr, nx, br⟩).1.length c', .int .i64 (recordsL ⟨l, dn, fu, fa, size, fr, nx, br⟩).2]) ∧ Aside0 (Sep w w' [row k62 62 (.slice A' (recordsL ⟨l, dn, fu, fa, size, fr, nx, br⟩).1.length c') (recordsL ⟨l, dn, fu, fa, size, fr, nx, br⟩).1]) := by
  have HRp := Aside0.mk hr
  have HCp := Aside0.mk hc
  have HG := Aside0.mk hG
  clear hr hc hG
  obtain ⟨O, hO⟩ : ∃ O, O = recordsL ⟨l, dn, fu, fa, size, fr, nx, br⟩ := ⟨_, rfl⟩
  rw [← hO]
  have HO := Aside0.mk hO
  clear hO
  have H := Aside0.mk (Sep.start w)
  go_enter Tryz.func27, Tryz.ntmps27
  go_wp2_with (first
 | ((with_reducible refine gate_dst (N := 1) rfl ?_);
    refine new_box rfl H (cs := [.slice A l.length c, .bool dn, .int .i64 fu, .int .i64 fa, .int .i64 size, .int .u64 fr, .int .u64 nx, .bool br]) (t := 30) ?hr ?_;
    (case hr => first | (go_simp; done) | (go_simp; rfl));
    intro gm wd1 n_;
    simp only [Act.put, List.setIfInBounds_toArray, List.set_cons_zero, List.set_cons_succ];
    clear H;
    have H := n_;
    clear n_;
    have c_m := H.out.cell (g := gm) mem0)
 | fail)
  by_cases hok : okL ⟨l, dn, fu, fa, size, fr, nx, br⟩
  ·
    refine ((segment_Check.calls A c l dn fu fa size fr nx br 0 _ (H.out.came HRp.out) HCp.out (by have h := check_eq ⟨l, dn, fu, fa, size, fr, nx, br⟩; rw [if_pos hok] at h; exact h)).mono ?_)
    rintro e wd2 ⟨rfl, hb_⟩
    have n_ : Aside0 (Sep w wd2 [box gm [.slice A l.length c, .bool dn, .int .i64 fu, .int .i64 fa, .int .i64 size, .int .u64 fr, .int .u64 nx, .bool br] 30]) := ⟨H.out.step hb_⟩
    clear H c_m
    have H := n_
    clear n_
    have c_m := H.out.cell (g := gm) mem0
    clear hb_
    have hok1 : rightF l = true := hok.1
    have HOK := Aside0.mk hok
    have HOK1 := Aside0.mk hok1
    clear hok hok1
    cases br with
    | true =>
      have hOV : O = ([], 6) := by rw [HO.out, recordsL, if_pos HOK.out, if_pos rfl]
      clear HO
      go_wp2_with fail
      go_ret2
      subst hOV
      exact ⟨none, 0, rfl, ⟨Sep.push_nil (Sep.drop0 H.out)⟩⟩
    | false =>
      cases dn with
      | true =>
        have hOV : O = ([], 17) := by rw [HO.out, recordsL, if_pos HOK.out, if_neg (by simp), if_pos rfl]
        clear HO
        go_wp2_with fail
        go_ret2
        subst hOV
        exact ⟨none, 0, rfl, ⟨Sep.push_nil (Sep.drop0 H.out)⟩⟩
      | false =>
        have hOV : O = (recR (findF l).recs (firstN (placesF l)), 0) := by rw [HO.out, recordsL, if_pos HOK.out, if_neg (by simp), if_neg (by simp)]
        have HOV := Aside0.mk hOV
        clear HO hOV
        go_wp2_with fail
        refine ((find_any A c l false fu fa _ (H.out.came HRp.out) HCp.out HOK1.out (HG.out.below H.out.below)).mono ?_)
        rintro e wd3 ⟨A1, c1, A2, c2, Aq, cq, rfl, HJ, _, _⟩
        have n_ : Aside0 (Sep w wd3 [row k62 62 (.slice A1 ((recR (goF SU (placesF l) (firstN (placesF l))).recs (firstN (placesF l)))).length c1) ((recR (goF SU (placesF l) (firstN (placesF l))).recs (firstN (placesF l)))), row k139 139 (.slice Aq ((placesF l)).length cq) ((placesF l)), box gm [.slice A l.length c, .bool false, .int .i64 fu, .int .i64 fa, .int .i64 size, .int .u64 fr, .int .u64 nx, .bool false] 30]) := ⟨sep_join H.out HJ.out⟩
        clear H c_m
        have H := n_
        clear n_
        have c_m := H.out.cell (g := gm) mem2
        clear HJ
        have hfld : ∀ (a b c d e f : Value) (w : World), (Instr.field 129 (.agg #[a, b, c, d, e, f]) 0).run Tryz.prog w = .ok a w := fun a b c d e f w => by simp [Instr.field, go_sem, Tryz.underlying129, asAgg]
        go_wp2_with fail
        go_ret2
        rw [HOV.out, findF]
        exact ⟨A1, c1, rfl, ⟨(Sep.drop1 (Sep.drop2 H.out))⟩⟩
  ·
    refine ((segment_Check.calls A c l dn fu fa size fr nx br 6 _ (H.out.came HRp.out) HCp.out (by have h := check_eq ⟨l, dn, fu, fa, size, fr, nx, br⟩; rw [if_neg hok] at h; exact h)).mono ?_)
    rintro e wd4 ⟨rfl, hb_⟩
    have n_ : Aside0 (Sep w wd4 [box gm [.slice A l.length c, .bool dn, .int .i64 fu, .int .i64 fa, .int .i64 size, .int .u64 fr, .int .u64 nx, .bool br] 30]) := ⟨H.out.step hb_⟩
    clear H c_m
    have H := n_
    clear n_
    have c_m := H.out.cell (g := gm) mem0
    clear hb_
    have HOK := Aside0.mk hok
    clear hok
    have hOV : O = ([], 6) := by rw [HO.out, recordsL, if_neg HOK.out]
    clear HO
    go_wp2_with fail
    go_ret2
    subst hOV
    exact ⟨none, 0, rfl, ⟨Sep.push_nil (Sep.drop0 H.out)⟩⟩
theorem records_any (A : Option Addr) (c : Nat) (L : Lg) (w : World) (hr : Kd.C k67 w A L.l.length L.l) (hc : L.l.length ≤ c) (hG : Gl w) :
    Calls Tryz.prog 27 #[.agg (lgc A c L).toArray] w fun e w' => ∃ A' c', e = .returned (.tuple #[.slice A' (recordsL L).1.length c', .int .i64 (recordsL L).2]) ∧ Aside0 (Sep w w' [row k62 62 (.slice A' (recordsL L).1.length c') (recordsL L).1]) :=
  records_any0 A c L.l L.dn L.fu L.fa L.size L.fr L.nx L.br w hr hc hG
end Go.Proofs.YtanonhipicoigaaGreatDoor.U
namespace Go.Proofs.YtanonhipicoigaaGreatDoor.U
open Go.RowKit Go.Proofs.YtanonhipicoigaaGreatDoorW.PrintWords Go.Proofs.YtanonhipicoigaaGreatDoorW.PrintLast Go.Proofs.YtanonhipicoigaaGreatDoorW.PrintMore Go.Proofs.YtanonhipicoigaaGreatDoor.Sp Go.Proofs.YtanonhipicoigaaGreatDoor.SegP
set_option linter.unusedVariables false
set_option linter.unusedSimpArgs false
/-- Files are dropped, the first ones. -/
def dropAll : Lg → List Pl → Int → Lg × Int × List Pl
  | L, p :: p2 :: r, q => if (p2.2 : Int) ≤ q then
      if (removeF L.l L.dn L.fu L.fa p.1.f0).2.2.2.2 = 0 then dropAll (chg L (removeF L.l L.dn L.fu L.fa p.1.f0)) (p2 :: r) q else (chg L (removeF L.l L.dn L.fu L.fa p.1.f0), (removeF L.l L.dn L.fu L.fa p.1.f0).2.2.2.2, [])
    else (L, 0, p :: p2 :: r)
  | L, [p], q => (L, 0, [p])
  | L, [], q => (L, 0, [])
def fromF (L : Lg) (ps : List Pl) : Lg := match ps with | [] => L | p :: _ => { L with fr := (p.2 : Int) }
/-- What Drop's closure does with a log. -/
noncomputable def dropDo (L : Lg) (q : Int) : Lg × Int :=
  if L.br = true then (L, 6)
  else if L.nx < q then (L, 2)
  else if (dropAll L (placesF L.l) q).2.1 = 0 then (fromF (dropAll L (placesF L.l) q).1 (dropAll L (placesF L.l) q).2.2, 0)
  else ((dropAll L (placesF L.l) q).1, (dropAll L (placesF L.l) q).2.1)
theorem drop_step {L : Lg} {rest : List Pl} {q : Int} {p p2 : Pl} {D : DiskR} (h0 : rest[0]? = some p) (h1 : rest[1]? = some p2) (hq : (p2.2 : Int) ≤ q) (hD : D = removeF L.l L.dn L.fu L.fa p.1.f0) :
    dropAll L rest q = if D.2.2.2.2 = 0 then dropAll (chg L D) (rest.drop 1) q else (chg L D, D.2.2.2.2, []) := by
  match rest, h0, h1 with
  | a :: b :: r, h0, h1 =>
    simp only [List.getElem?_cons_zero, List.getElem?_cons_succ, Option.some.injEq] at h0 h1
    subst h0 h1 hD
    rw [dropAll, if_pos hq]
    rfl
theorem drop_stop1 {L : Lg} {rest : List Pl} {q : Int} (h : ¬ 1 < rest.length) : dropAll L rest q = (L, 0, rest) := by
  match rest, h with
  | [], _ => rfl
  | [p], _ => rfl
  | p :: p2 :: r, h => simp at h
theorem drop_stop2 {L : Lg} {rest : List Pl} {q : Int} {p2 : Pl} (h1 : rest[1]? = some p2) (hq : ¬ (p2.2 : Int) ≤ q) : dropAll L rest q = (L, 0, rest) := by
  match rest, h1 with
  | a :: b :: r, h1 =>
    simp only [List.getElem?_cons_zero, List.getElem?_cons_succ, Option.some.injEq] at h1
    subst h1
    rw [dropAll, if_neg hq]
set_option maxHeartbeats 8000000 in
set_option maxRecDepth 100000 in
theorem drop_do (b : World) (gl g0 g1 gv : Nat) (l : List S67) (dn : Bool) (fu fa size fr : Int) (n : Nat) (br : Bool) (q : Int) (A0 : Option Addr) (c0 : Nat) (hok : rightF l = true) (hG : Gl b) (hn : n < 18446744073709551616) (hq0 : 0 ≤ q) :
    DoesL b gl 84 #[.pointer (some ⟨g0, 0, none⟩), .pointer (some ⟨g1, 0, none⟩), .pointer (some ⟨gv, 0, none⟩)] ⟨l, dn, fu, fa, size, fr, (n : Int), br⟩ [box g0 [.slice A0 l.length c0, .bool dn, .int .i64 fu, .int .i64 fa, .int .i64 size, .int .u64 fr, .int .u64 (n : Int), .bool br] 30, box g1 [.int .u64 q] 28, box gv [.pointer (some ⟨gl, 0, none⟩)] 131] (dropDo ⟨l, dn, fu, fa, size, fr, (n : Int), br⟩ q).1 (dropDo ⟨l, dn, fu, fa, size, fr, (n : Int), br⟩ q).2 := by
  intro A c w ts H0
  have HOK := Aside0.mk hok
  have HG := Aside0.mk hG
  have hlen : l.length ≤ 64 := right_len hok
  clear hok hG
  obtain ⟨R, hR⟩ : ∃ R, R = dropDo ⟨l, dn, fu, fa, size, fr, (n : Int), br⟩ q := ⟨_, rfl⟩
  rw [← hR]
  have HR := Aside0.mk hR
  clear hR
  have H : Aside0 (Sep b w (box gl [.slice A l.length c, .bool dn, .int .i64 fu, .int .i64 fa, .int .i64 size, .int .u64 fr, .int .u64 (n : Int), .bool br] 134 :: row k67 67 (.slice A (l).length c) l :: box g0 [.slice A0 l.length c0, .bool dn, .int .i64 fu, .int .i64 fa, .int .i64 size, .int .u64 fr, .int .u64 (n : Int), .bool br] 30 :: box g1 [.int .u64 q] 28 :: box gv [.pointer (some ⟨gl, 0, none⟩)] 131 :: ts)) := H0
  clear H0
  have c_l := H.out.cell (g := gl) mem0
  have c_m := H.out.cell (g := g0) mem2
  have c_t := H.out.cell (g := g1) mem3
  have c_v := H.out.cell (g := gv) mem4
  go_enter Tryz.func84, Tryz.ntmps84
  cases br with
  | true =>
    go_wp2_with fail
    refine (must_no 6 _).mono ?_
    rintro e w_ ⟨rfl, rfl⟩
    have hV : R = (⟨l, dn, fu, fa, size, fr, (n : Int), true⟩, 6) := by rw [HR.out, dropDo, if_pos rfl]
    show _ ∧ _
    rw [hV]
    exact ⟨rfl, .inr ⟨show (6 : Int) ≠ 0 by decide, rfl⟩, A, c, H⟩
  | false =>
    go_wp2_with fail
    refine (must_yes 6 _).mono ?_
    rintro e w_ ⟨rfl, rfl⟩
    by_cases hx : (n : Int) < q
    ·
      have hq2 : decide (q ≤ (n : Int)) = false := decide_eq_false (by omega)
      go_wp2_with fail
      try simp only [hq2]
      refine (must_no 2 _).mono ?_
      rintro e w_ ⟨rfl, rfl⟩
      have hV : R = (⟨l, dn, fu, fa, size, fr, (n : Int), false⟩, 2) := by rw [HR.out, dropDo, if_neg (by simp), if_pos hx]
      show _ ∧ _
      rw [hV]
      exact ⟨rfl, .inr ⟨show (2 : Int) ≠ 0 by decide, rfl⟩, A, c, H⟩
    ·
      have hq2 : decide (q ≤ (n : Int)) = true := decide_eq_true (by omega)
      go_wp2_with fail
      try simp only [hq2]
      refine (must_yes 2 _).mono ?_
      rintro e w_ ⟨rfl, rfl⟩
      obtain ⟨ps, hps⟩ : ∃ ps, ps = placesF l := ⟨_, rfl⟩
      have hRV : R = (if (dropAll ⟨l, dn, fu, fa, size, fr, (n : Int), false⟩ ps q).2.1 = 0 then (fromF (dropAll ⟨l, dn, fu, fa, size, fr, (n : Int), false⟩ ps q).1 (dropAll ⟨l, dn, fu, fa, size, fr, (n : Int), false⟩ ps q).2.2, 0) else ((dropAll ⟨l, dn, fu, fa, size, fr, (n : Int), false⟩ ps q).1, (dropAll ⟨l, dn, fu, fa, size, fr, (n : Int), false⟩ ps q).2.1)) := by
        rw [HR.out, dropDo, if_neg (by simp), if_neg (by show ¬ ((n : Int) < q); omega), hps]
      have HRV := Aside0.mk hRV
      have PA := Aside0.mk (fun A c w hr hc hG => places_any A c l dn fu fa w hr hc hlen (right_nms HOK.out) hG)
      rw [← hps] at PA
      have hpl : ps.length ≤ 64 := by
        have := places_len l
        rw [← hps] at this
        omega
      have HPB : Aside0 (∀ p ∈ ps, p.2 ≤ most) := ⟨fun p hp => (places_size HOK.out hps hp).2.1⟩
      clear hps HR hRV hq2
      go_wp2_with fail
      refine ((PA.out A c _ (H.out.reads mem1).2.2 (H.out.reads mem1).2.1 (HG.out.below H.out.below)).mono ?_)
      rintro e wd1 ⟨v_, rfl, ho_, hb_⟩
      obtain ⟨Aq, cq, eo_⟩ := Kd.R_slice ho_
      subst eo_
      have n_ : Aside0 (Sep b wd1 (row k139 139 (.slice Aq (ps).length cq) ps :: box gl [.slice A l.length c, .bool dn, .int .i64 fu, .int .i64 fa, .int .i64 size, .int .u64 fr, .int .u64 (n : Int), .bool false] 134 :: row k67 67 (.slice A (l).length c) l :: box g0 [.slice A0 l.length c0, .bool dn, .int .i64 fu, .int .i64 fa, .int .i64 size, .int .u64 fr, .int .u64 (n : Int), .bool false] 30 :: box g1 [.int .u64 q] 28 :: box gv [.pointer (some ⟨gl, 0, none⟩)] 131 :: ts)) := ⟨Sep.push_row H.out hb_ ho_ k139_flat⟩
      clear H c_l c_m c_t c_v
      have H := n_
      clear n_
      have c_l := H.out.cell (g := gl) mem1
      have c_m := H.out.cell (g := g0) mem3
      have c_t := H.out.cell (g := g1) mem4
      have c_v := H.out.cell (g := gv) mem5
      clear ho_ hb_
      go_wp2_with fail
      go_loopw [3] (fun v3 wr => ∃ (L : Lg) (rest : List Pl) (A5 : Option Addr) (c5 : Nat) (A4 : Option Addr) (c4 : Nat), v3 = .slice A5 rest.length c5 ∧ rest.length ≤ c5 ∧ rest.length ≤ 64 ∧ Aside0 (∀ p ∈ rest, p.2 ≤ most) ∧ Aside0 (∀ W, Kd.C k139 W Aq ps.length ps → Kd.C k139 W A5 rest.length rest) ∧ Aside0 (dropAll ⟨l, dn, fu, fa, size, fr, (n : Int), false⟩ ps q = dropAll L rest q) ∧ Aside0 (Sep b wr (row k139 139 (.slice Aq (ps).length cq) ps :: box gl [.slice A4 L.l.length c4, .bool L.dn, .int .i64 L.fu, .int .i64 L.fa, .int .i64 L.size, .int .u64 L.fr, .int .u64 L.nx, .bool L.br] 134 :: row k67 67 (.slice A4 (L.l).length c4) L.l :: box g0 [.slice A0 l.length c0, .bool dn, .int .i64 fu, .int .i64 fa, .int .i64 size, .int .u64 fr, .int .u64 (n : Int), .bool false] 30 :: box g1 [.int .u64 q] 28 :: box gv [.pointer (some ⟨gl, 0, none⟩)] 131 :: ts)))
        (fun v3 _ => match v3 with | .slice _ k _ => k | _ => 0)
      case atStart => exact ⟨⟨l, dn, fu, fa, size, fr, (n : Int), false⟩, ps, Aq, cq, A, c, rfl, (H.out.reads mem0).2.1, hpl, HPB, ⟨fun W h => h⟩, ⟨rfl⟩, H⟩
      case round =>
        clear H c_l c_m c_t c_v
        obtain ⟨L, rest, A5, c5, A4, c4, rfl, hc5, hrl, HPB2, HC5, HDA, H⟩ := hrel
        have c_l := H.out.cell (g := gl) mem1
        have c_m := H.out.cell (g := g0) mem3
        have c_t := H.out.cell (g := g1) mem4
        have c_v := H.out.cell (g := gv) mem5
        by_cases hl1 : 1 < rest.length
        ·
          obtain ⟨p, hp⟩ : ∃ p, rest[0]? = some p := ⟨_, List.getElem?_eq_getElem (by omega)⟩
          obtain ⟨a5, e1⟩ := row139 (HC5.out _ (H.out.reads (A := Aq) mem0).2.2) (by omega)
          subst e1
          obtain ⟨h0, h1, h2, h3⟩ := at139 (HC5.out _ (H.out.reads (A := Aq) mem0).2.2) hp
          have ea : a5.add 0 = a5 := by simp [Addr.add]
          simp only [Nat.zero_mul, ea] at h0 h1 h2 h3
          have HP0 := Aside0.mk hp
          clear ea
          obtain ⟨p2, hp2⟩ : ∃ p2, rest[1]? = some p2 := ⟨_, List.getElem?_eq_getElem (by omega)⟩
          obtain ⟨k0, k1, k2, k3⟩ := at139 (HC5.out _ (H.out.reads (A := Aq) mem0).2.2) hp2
          simp only [Nat.one_mul] at k0 k1 k2 k3
          have k4 : wr.cell? ⟨a5.block, a5.off + 4 + 3, none⟩ = some (.int .u64 (p2.2 : Int)) := k3
          have HP2 := Aside0.mk hp2
          have hp2m : p2.2 ≤ 4611686018427387904 := HPB2.out p2 (List.mem_of_getElem? hp2)
          have q1 : decide ((1 : Int) < (rest.length : Int)) = true := decide_eq_true (by omega)
          have q5 : (1 : Int) < (rest.length : Int) := by omega
          clear hp hp2 k0 k1 k2 k3
          by_cases hq2 : (p2.2 : Int) ≤ q
          ·
            obtain ⟨D, hD⟩ : ∃ D, D = removeF L.l L.dn L.fu L.fa p.1.f0 := ⟨_, rfl⟩
            have HDS := Aside0.mk (drop_step HP0.out HP2.out hq2 hD)
            have HD := Aside0.mk hD
            clear hD
            have q2 := decide_eq_true hq2
            go_upto_region 3 with fail
            go_quiet (fail)
            clear h0 h1 h2 h3 k4
            have hl00 : 0 < rest.length := by omega
            go_upto_region 4 with fail
            refine gen_code (rs := (row k139 139 (.slice Aq (ps).length cq) ps :: box gl [.slice A4 L.l.length c4, .bool L.dn, .int .i64 L.fu, .int .i64 L.fa, .int .i64 L.size, .int .u64 L.fr, .int .u64 L.nx, .bool L.br] 134 :: row k67 67 (.slice A4 (L.l).length c4) L.l :: box g0 [.slice A0 l.length c0, .bool dn, .int .i64 fu, .int .i64 fa, .int .i64 size, .int .u64 fr, .int .u64 (n : Int), .bool false] 30 :: box g1 [.int .u64 q] 28 :: box gv [.pointer (some ⟨gl, 0, none⟩)] 131 :: ts)) (Sep.drewN H.out _) ?_
            intro wd2 n_
            clear H c_l c_m c_t c_v
            have H := n_
            clear n_
            have c_l := H.out.cell (g := gl) mem1
            have c_m := H.out.cell (g := g0) mem3
            have c_t := H.out.cell (g := g1) mem4
            have c_v := H.out.cell (g := gv) mem5
            refine start_ (n := 15) (S := fun w' => (∀ j : Nat, w'.cell? ⟨gv, j, none⟩ = [.pointer (some ⟨gl, 0, none⟩)][j]?) ∧ (∀ j : Nat, w'.cell? ⟨gl, j, none⟩ = [.slice A4 L.l.length c4, .bool L.dn, .int .i64 L.fu, .int .i64 L.fa, .int .i64 L.size, .int .u64 L.fr, .int .u64 L.nx, .bool L.br][j]?) ∧ w'.cell? a5 = some (.string p.1.f0) ∧ Sp.Sep b w' (row k139 139 (.slice Aq (ps).length cq) ps :: box gl [.slice A4 L.l.length c4, .bool L.dn, .int .i64 L.fu, .int .i64 L.fa, .int .i64 L.size, .int .u64 L.fr, .int .u64 L.nx, .bool L.br] 134 :: row k67 67 (.slice A4 (L.l).length c4) L.l :: box g0 [.slice A0 l.length c0, .bool dn, .int .i64 fu, .int .i64 fa, .int .i64 size, .int .u64 fr, .int .u64 (n : Int), .bool false] 30 :: box g1 [.int .u64 q] 28 :: box gv [.pointer (some ⟨gl, 0, none⟩)] 131 :: ts)) (ds := [14]) #[false, false, false, false, false, false, false, false, false, false, false, false, false, false, false] (by kernel_rfl) rfl rfl ⟨(fun j => ((Sep.drew H.out)).cell (g := gv) mem5 j), (fun j => ((Sep.drew H.out)).cell (g := gl) mem1 j), (by have h := (at139 (HC5.out _ (Sep.reads (A := Aq) (Sep.drew H.out) mem0).2.2) HP0.out).1; rwa [show a5.add (0 * 4) = a5 by simp [Addr.add]] at h), (Sep.drew H.out)⟩ (fun hHeld => ?_)
            refine pure_ (i := 6) (N := some 36) (v := ?_) (a' := ?_) #[false, false, false, false, false, false, true, false, false, false, false, false, false, false, false] rfl rfl (by kernel_rfl) (fun _ _ _ h => h) (Or.inl ⟨by rfl, ?_⟩) ?_ ?_
            rotate_left
            · intro w'
              go_simp
              with_reducible rfl
            rotate_left
            · simp only [Act.put, List.setIfInBounds_toArray, List.set_cons_zero, List.set_cons_succ, i64_w, i32_w]
              rfl
            refine pure_ (i := 7) (N := some 37) (v := ?_) (a' := ?_) #[false, false, false, false, false, false, true, true, false, false, false, false, false, false, false] rfl rfl (by kernel_rfl) (fun _ _ _ h => h) (Or.inl ⟨by rfl, ?_⟩) ?_ ?_
            rotate_left
            · intro w'
              go_simp
              with_reducible rfl
            rotate_left
            · simp only [Act.put, List.setIfInBounds_toArray, List.set_cons_zero, List.set_cons_succ, i64_w, i32_w]
              rfl
            refine pure_ (i := 8) (N := some 38) (v := ?_) (a' := ?_) #[false, false, false, false, false, false, true, true, true, false, false, false, false, false, false] rfl rfl (by kernel_rfl) (fun _ _ _ h => h) (Or.inl ⟨by rfl, ?_⟩) ?_ ?_
            rotate_left
            · intro w'
              go_simp
              with_reducible rfl
            rotate_left
            · simp only [Act.put, List.setIfInBounds_toArray, List.set_cons_zero, List.set_cons_succ, i64_w, i32_w]
              rfl
            refine pure_ (i := 9) (N := some 39) (v := ?_) (a' := ?_) #[false, false, false, false, false, false, true, true, true, true, false, false, false, false, false] rfl rfl (by kernel_rfl) (fun _ _ _ h => h) (Or.inl ⟨by rfl, ?_⟩) ?_ ?_
            rotate_left
            · intro w'
              go_simp
              with_reducible rfl
            rotate_left
            · simp only [Act.put, List.setIfInBounds_toArray, List.set_cons_zero, List.set_cons_succ, i64_w, i32_w]
              rfl
            refine take_ (i := 0) (N := some 30) (v := ?_) (a' := ?_) #[true, false, false, false, false, false, true, true, true, true, false, false, false, false, false] rfl rfl (by kernel_rfl) (fun _ _ _ h => h) (Or.inl ⟨by rfl, ?_⟩) hHeld ?_ ?_
            rotate_left
            · rintro w' ⟨s0, s1, s2, s3⟩
              go_simp
              with_reducible rfl
            rotate_left
            · simp only [Act.put, List.setIfInBounds_toArray, List.set_cons_zero, List.set_cons_succ, i64_w, i32_w]
              rfl
            refine take_ (i := 1) (N := some 31) (v := ?_) (a' := ?_) #[true, true, false, false, false, false, true, true, true, true, false, false, false, false, false] rfl rfl (by kernel_rfl) (fun _ _ _ h => h) (Or.inl ⟨by rfl, ?_⟩) hHeld ?_ ?_
            rotate_left
            · rintro w' ⟨s0, s1, s2, s3⟩
              go_simp
              with_reducible rfl
            rotate_left
            · simp only [Act.put, List.setIfInBounds_toArray, List.set_cons_zero, List.set_cons_succ, i64_w, i32_w]
              rfl
            refine pure_ (i := 2) (N := some 32) (v := ?_) (a' := ?_) #[true, true, true, false, false, false, true, true, true, true, false, false, false, false, false] rfl rfl (by kernel_rfl) (fun _ _ _ h => h) (Or.inl ⟨by rfl, ?_⟩) ?_ ?_
            rotate_left
            · intro w'
              go_simp
              with_reducible rfl
            rotate_left
            · simp only [Act.put, List.setIfInBounds_toArray, List.set_cons_zero, List.set_cons_succ, i64_w, i32_w]
              rfl
            refine pure_ (i := 3) (N := some 33) (v := ?_) (a' := ?_) #[true, true, true, true, false, false, true, true, true, true, false, false, false, false, false] rfl rfl (by kernel_rfl) (fun _ _ _ h => h) (Or.inl ⟨by rfl, ?_⟩) ?_ ?_
            rotate_left
            · intro w'
              go_simp
              with_reducible rfl
            rotate_left
            · simp only [Act.put, List.setIfInBounds_toArray, List.set_cons_zero, List.set_cons_succ, i64_w, i32_w]
              rfl
            refine pure_ (i := 4) (N := some 34) (v := ?_) (a' := ?_) #[true, true, true, true, true, false, true, true, true, true, false, false, false, false, false] rfl rfl (by kernel_rfl) (fun _ _ _ h => h) (Or.inl ⟨by rfl, ?_⟩) ?_ ?_
            rotate_left
            · intro w'
              go_simp
              with_reducible rfl
            rotate_left
            · simp only [Act.put, List.setIfInBounds_toArray, List.set_cons_zero, List.set_cons_succ, i64_w, i32_w]
              rfl
            refine take_ (i := 5) (N := some 35) (v := ?_) (a' := ?_) #[true, true, true, true, true, true, true, true, true, true, false, false, false, false, false] rfl rfl (by kernel_rfl) (fun _ _ _ h => h) (Or.inl ⟨by rfl, ?_⟩) hHeld ?_ ?_
            rotate_left
            · rintro w' ⟨s0, s1, s2, s3⟩
              go_simp
              with_reducible rfl
            rotate_left
            · simp only [Act.put, List.setIfInBounds_toArray, List.set_cons_zero, List.set_cons_succ, i64_w, i32_w]
              rfl
            refine take_ (i := 10) (N := some 40) (v := ?_) (a' := ?_) #[true, true, true, true, true, true, true, true, true, true, true, false, false, false, false] rfl rfl (by kernel_rfl) (fun _ _ _ h => h) (Or.inl ⟨by rfl, ?_⟩) hHeld ?_ ?_
            rotate_left
            · rintro w' ⟨s0, s1, s2, s3⟩
              go_simp
              with_reducible rfl
            rotate_left
            · simp only [Act.put, List.setIfInBounds_toArray, List.set_cons_zero, List.set_cons_succ, i64_w, i32_w]
              rfl
            refine one_ (i := 11) (N := some 41) #[true, true, true, true, true, true, true, true, true, true, true, true, false, false, false] rfl rfl (by kernel_rfl) (by decide) (fun K hK => ?_)
            refine goes_ Tryz.func73 (by kernel_rfl) rfl #[.agg #[.slice A4 L.l.length c4, .bool L.dn, .int .i64 L.fu, .int .i64 L.fa], .string p.1.f0] (by rfl) rfl rfl (by simp only [List.map_toArray, List.map_cons, List.map_nil]; rfl) ?_
            with_reducible refine (disk_Remove.calls A4 c4 L.l L.dn L.fu L.fa p.1.f0 D.1 D.2.1 D.2.2.1 D.2.2.2.1 D.2.2.2.2 _ (Sep.reads hHeld.2.2.2 mem2).2.2 (Sep.reads hHeld.2.2.2 mem2).2.1 (by rw [disk_Remove_eq, ← HD.out])).mono ?_
            rintro e w5 ⟨v_, rfl, ho_, hb5_⟩
            obtain ⟨A6, c6, eo_⟩ := Kd.R_slice ho_
            subst eo_
            have HN3 := Aside0.mk (Sep.push_row hHeld.2.2.2 hb5_ ho_ k67_flat)
            refine ⟨_, rfl, ?_⟩
            refine hK.out _ _ ⟨(fun j => ((Sep.step hHeld.2.2.2 hb5_)).cell (g := gv) mem5 j), (fun j => ((Sep.step hHeld.2.2.2 hb5_)).cell (g := gl) mem1 j), (by have h := (at139 (HC5.out _ (Sep.reads (A := Aq) (Sep.step hHeld.2.2.2 hb5_) mem0).2.2) HP0.out).1; rwa [show a5.add (0 * 4) = a5 by simp [Addr.add]] at h), (Sep.step hHeld.2.2.2 hb5_)⟩ (fun hHeld => ?_)
            clear hK K
            refine norm_ (a' := ?_) ?_ ?_
            rotate_left
            · show Act.put _ (some 41) _ = _
              simp only [Act.put, List.setIfInBounds_toArray, List.set_cons_zero, List.set_cons_succ, i64_w, i32_w]
              rfl
            refine pure_ (i := 12) (N := some 42) (v := ?_) (a' := ?_) #[true, true, true, true, true, true, true, true, true, true, true, true, true, false, false] rfl rfl (by kernel_rfl) (fun _ _ _ h => h) (Or.inl ⟨by rfl, ?_⟩) ?_ ?_
            rotate_left
            · intro w'
              go_simp
              with_reducible rfl
            rotate_left
            · simp only [Act.put, List.setIfInBounds_toArray, List.set_cons_zero, List.set_cons_succ, i64_w, i32_w]
              rfl
            refine pure_ (i := 13) (N := some 43) (v := ?_) (a' := ?_) #[true, true, true, true, true, true, true, true, true, true, true, true, true, true, false] rfl rfl (by kernel_rfl) (fun _ _ _ h => h) (Or.inl ⟨by rfl, ?_⟩) ?_ ?_
            rotate_left
            · intro w'
              go_simp
              with_reducible rfl
            rotate_left
            · simp only [Act.put, List.setIfInBounds_toArray, List.set_cons_zero, List.set_cons_succ, i64_w, i32_w]
              rfl
            refine last_ (i := 14) (N := some 44) #[true, true, true, true, true, true, true, true, true, true, true, true, true, true, true] rfl rfl (by kernel_rfl) (by decide) (fun K hK => ?_)
            refine goesE_ Tryz.func72 (by kernel_rfl) rfl #[.pointer (some ⟨gl, 0, none⟩), .agg #[.slice A6 D.1.length c6, .bool D.2.1, .int .i64 D.2.2.1, .int .i64 D.2.2.2.1], .int .i64 D.2.2.2.2] (by rfl) rfl rfl (by simp only [List.map_toArray, List.map_cons, List.map_nil]; rfl) ?_
            refine (change_any gl A4 c4 L A6 c6 D (rs := rowF A6 c6 D.1 :: (row k139 139 (.slice Aq (ps).length cq) ps :: row k67 67 (.slice A4 (L.l).length c4) L.l :: box g0 [.slice A0 l.length c0, .bool dn, .int .i64 fu, .int .i64 fa, .int .i64 size, .int .u64 fr, .int .u64 (n : Int), .bool false] 30 :: box g1 [.int .u64 q] 28 :: box gv [.pointer (some ⟨gl, 0, none⟩)] 131 :: ts)) ⟨HN3.out.front2⟩).mono ?_
            rintro e w6 ⟨hE, H4⟩
            rcases hE with ⟨hz, rfl⟩ | ⟨hnz, rfl⟩
            rotate_left
            · refine .inr ⟨_, rfl, ?_⟩
              have hV : R = (chg L D, D.2.2.2.2) := by rw [HRV.out, HDA.out, HDS.out, if_neg hnz, if_neg hnz]
              show _ ∧ _
              rw [hV]
              exact ⟨rfl, .inr ⟨hnz, rfl⟩, A6, c6, ⟨(Sep.drop2 (Sep.drop3 H4.out))⟩⟩
            refine .inl ⟨_, rfl, ?_⟩
            refine hK.out _ _ ?_
            clear hK K
            refine norm_ (a' := ?_) ?_ ?_
            rotate_left
            · show Act.put _ (some 44) _ = _
              simp only [Act.put, List.setIfInBounds_toArray, List.set_cons_zero, List.set_cons_succ, i64_w, i32_w]
              rfl
            refine done_ (by kernel_rfl) ?_
            have hc6 : (rest.length : Int) ≤ (c5 : Int) := by omega
            have hln : (rest.drop 1).length = rest.length - 1 := List.length_drop
            go_wp2
            refine ⟨⟨chg L D, rest.drop 1, some (a5.add (1 * 4)), c5 - 1, A6, c6, ?_, by omega, by omega, ⟨fun p hp => HPB2.out p (List.mem_of_mem_drop hp)⟩, ⟨fun W h => ?_⟩, ⟨?_⟩, ⟨(Sep.front5 (Sep.front4 (Sep.front4 (Sep.front5 (Sep.front5 (Sep.front5 (Sep.drop3 H4.out)))))))⟩⟩, ?_⟩
            · rw [hln]
              rfl
            · rw [hln]
              exact C139_drop (HC5.out W h) (by omega)
            · rw [HDA.out, HDS.out, if_pos hz]
            · show rest.length - 1 < rest.length
              omega
          ·
            have q2 := decide_eq_false hq2
            have HV : Aside0 (R = (fromF L rest, 0)) := ⟨by rw [HRV.out, HDA.out, drop_stop2 HP2.out hq2, if_pos rfl]⟩
            have q6 : (0 : Int) < (rest.length : Int) := by omega
            go_upto_region 3 with fail
            go_quiet (fail)
            clear h0 h1 h2 h3 k4
            go_upto_region 7 with fail
            refine gen_code (rs := (row k139 139 (.slice Aq (ps).length cq) ps :: box gl [.slice A4 L.l.length c4, .bool L.dn, .int .i64 L.fu, .int .i64 L.fa, .int .i64 L.size, .int .u64 L.fr, .int .u64 L.nx, .bool L.br] 134 :: row k67 67 (.slice A4 (L.l).length c4) L.l :: box g0 [.slice A0 l.length c0, .bool dn, .int .i64 fu, .int .i64 fa, .int .i64 size, .int .u64 fr, .int .u64 (n : Int), .bool false] 30 :: box g1 [.int .u64 q] 28 :: box gv [.pointer (some ⟨gl, 0, none⟩)] 131 :: ts)) (Sep.drewN H.out _) ?_
            intro wd3 n_
            clear H c_l c_m c_t c_v
            have H := n_
            clear n_
            have c_l := H.out.cell (g := gl) mem1
            have c_m := H.out.cell (g := g0) mem3
            have c_t := H.out.cell (g := g1) mem4
            have c_v := H.out.cell (g := gv) mem5
            clear c_l c_m c_t c_v
            have c_l := H.out.cell (g := gl) mem1
            have z_l := H.out.frozen (g := gl) mem1
            have c_m := H.out.cell (g := g0) mem3
            have c_t := H.out.cell (g := g1) mem4
            have c_v := H.out.cell (g := gv) mem5
            have h9 : wd3.cell? ⟨a5.block, a5.off + 3, none⟩ = some (.int .u64 (p.2 : Int)) := by
              have h := (at139 (HC5.out _ (H.out.reads (A := Aq) mem0).2.2) HP0.out).2.2.2
              rwa [show a5.add (0 * 4) = a5 by simp [Addr.add]] at h
            have hl00 : 0 < rest.length := by omega
            go_region
            clear h9
            refine gen_k (rs := (row k139 139 (.slice Aq (ps).length cq) ps :: box gl [.slice A4 L.l.length c4, .bool L.dn, .int .i64 L.fu, .int .i64 L.fa, .int .i64 L.size, .int .u64 (p.2 : Int), .int .u64 L.nx, .bool L.br] 134 :: row k67 67 (.slice A4 (L.l).length c4) L.l :: box g0 [.slice A0 l.length c0, .bool dn, .int .i64 fu, .int .i64 fa, .int .i64 size, .int .u64 fr, .int .u64 (n : Int), .bool false] 30 :: box g1 [.int .u64 q] 28 :: box gv [.pointer (some ⟨gl, 0, none⟩)] 131 :: ts)) (Sep.drew (Sep.set1 H.out 5 (.int .u64 (p.2 : Int)) rfl)) ?_
            intro wd4 n_
            clear H c_l z_l c_m c_t c_v
            have H := n_
            clear n_
            have c_l := H.out.cell (g := gl) mem1
            have z_l := H.out.frozen (g := gl) mem1
            have c_m := H.out.cell (g := g0) mem3
            have c_t := H.out.cell (g := g1) mem4
            have c_v := H.out.cell (g := gv) mem5
            go_wp2_with fail
            go_end0
            have hfr : fromF L rest = { L with fr := (p.2 : Int) } := by
              cases rest with
              | nil => cases HP0.out
              | cons a r => have := HP0.out; simp only [List.getElem?_cons_zero, Option.some.injEq] at this; subst this; rfl
            rw [HV.out, hfr]
            exact ⟨.inl ⟨rfl, rfl⟩, A4, c4, ⟨(Sep.drop0 H.out)⟩⟩
        ·
          have q1 : decide ((1 : Int) < (rest.length : Int)) = false := decide_eq_false (by omega)
          have HV : Aside0 (R = (fromF L rest, 0)) := ⟨by rw [HRV.out, HDA.out, drop_stop1 hl1, if_pos rfl]⟩
          by_cases hl0 : 0 < rest.length
          ·
            obtain ⟨p, hp⟩ : ∃ p, rest[0]? = some p := ⟨_, List.getElem?_eq_getElem (by omega)⟩
            obtain ⟨a5, e1⟩ := row139 (HC5.out _ (H.out.reads (A := Aq) mem0).2.2) (by omega)
            subst e1
            obtain ⟨h0, h1, h2, h3⟩ := at139 (HC5.out _ (H.out.reads (A := Aq) mem0).2.2) hp
            have ea : a5.add 0 = a5 := by simp [Addr.add]
            simp only [Nat.zero_mul, ea] at h0 h1 h2 h3
            have HP0 := Aside0.mk hp
            clear ea
            clear hp
            have q5 : (0 : Int) < (rest.length : Int) := by omega
            go_upto_region 3 with fail
            go_quiet (fail)
            clear h0 h1 h2 h3
            go_upto_region 7 with fail
            refine gen_code (rs := (row k139 139 (.slice Aq (ps).length cq) ps :: box gl [.slice A4 L.l.length c4, .bool L.dn, .int .i64 L.fu, .int .i64 L.fa, .int .i64 L.size, .int .u64 L.fr, .int .u64 L.nx, .bool L.br] 134 :: row k67 67 (.slice A4 (L.l).length c4) L.l :: box g0 [.slice A0 l.length c0, .bool dn, .int .i64 fu, .int .i64 fa, .int .i64 size, .int .u64 fr, .int .u64 (n : Int), .bool false] 30 :: box g1 [.int .u64 q] 28 :: box gv [.pointer (some ⟨gl, 0, none⟩)] 131 :: ts)) (Sep.drewN H.out _) ?_
            intro wd5 n_
            clear H c_l c_m c_t c_v
            have H := n_
            clear n_
            have c_l := H.out.cell (g := gl) mem1
            have c_m := H.out.cell (g := g0) mem3
            have c_t := H.out.cell (g := g1) mem4
            have c_v := H.out.cell (g := gv) mem5
            clear c_l c_m c_t c_v
            have c_l := H.out.cell (g := gl) mem1
            have z_l := H.out.frozen (g := gl) mem1
            have c_m := H.out.cell (g := g0) mem3
            have c_t := H.out.cell (g := g1) mem4
            have c_v := H.out.cell (g := gv) mem5
            have h9 : wd5.cell? ⟨a5.block, a5.off + 3, none⟩ = some (.int .u64 (p.2 : Int)) := by
              have h := (at139 (HC5.out _ (H.out.reads (A := Aq) mem0).2.2) HP0.out).2.2.2
              rwa [show a5.add (0 * 4) = a5 by simp [Addr.add]] at h
            have hl00 : 0 < rest.length := by omega
            go_region
            clear h9
            refine gen_k (rs := (row k139 139 (.slice Aq (ps).length cq) ps :: box gl [.slice A4 L.l.length c4, .bool L.dn, .int .i64 L.fu, .int .i64 L.fa, .int .i64 L.size, .int .u64 (p.2 : Int), .int .u64 L.nx, .bool L.br] 134 :: row k67 67 (.slice A4 (L.l).length c4) L.l :: box g0 [.slice A0 l.length c0, .bool dn, .int .i64 fu, .int .i64 fa, .int .i64 size, .int .u64 fr, .int .u64 (n : Int), .bool false] 30 :: box g1 [.int .u64 q] 28 :: box gv [.pointer (some ⟨gl, 0, none⟩)] 131 :: ts)) (Sep.drew (Sep.set1 H.out 5 (.int .u64 (p.2 : Int)) rfl)) ?_
            intro wd6 n_
            clear H c_l z_l c_m c_t c_v
            have H := n_
            clear n_
            have c_l := H.out.cell (g := gl) mem1
            have z_l := H.out.frozen (g := gl) mem1
            have c_m := H.out.cell (g := g0) mem3
            have c_t := H.out.cell (g := g1) mem4
            have c_v := H.out.cell (g := gv) mem5
            go_wp2_with fail
            go_end0
            have hfr : fromF L rest = { L with fr := (p.2 : Int) } := by
              cases rest with
              | nil => cases HP0.out
              | cons a r => have := HP0.out; simp only [List.getElem?_cons_zero, Option.some.injEq] at this; subst this; rfl
            rw [HV.out, hfr]
            exact ⟨.inl ⟨rfl, rfl⟩, A4, c4, ⟨(Sep.drop0 H.out)⟩⟩
          ·
            have hre : rest = [] := List.length_eq_zero_iff.1 (by omega)
            have HRE : Aside0 (fromF L rest = L) := ⟨by rw [hre]; rfl⟩
            have q5 : ¬ (0 : Int) < (rest.length : Int) := by omega
            clear hre
            go_upto_region 3 with fail
            go_quiet (fail)
            go_wp2_with fail
            go_end0
            rw [HV.out, HRE.out]
            exact ⟨.inl ⟨rfl, rfl⟩, A4, c4, ⟨(Sep.drop0 (Sep.drewN H.out _))⟩⟩
end Go.Proofs.YtanonhipicoigaaGreatDoor.U
namespace Go.Proofs.YtanonhipicoigaaGreatDoor.U
open Go.RowKit Go.Proofs.YtanonhipicoigaaGreatDoorW.PrintWords Go.Proofs.YtanonhipicoigaaGreatDoorW.PrintLast Go.Proofs.YtanonhipicoigaaGreatDoorW.PrintMore Go.Proofs.YtanonhipicoigaaGreatDoor.Sp Go.Proofs.YtanonhipicoigaaGreatDoor.SegP
set_option linter.unusedVariables false
set_option linter.unusedSimpArgs false
open Classical in
/-- What Drop answers. -/
noncomputable def dropL (L : Lg) (q : Int) : Lg × Int := if okL L then dropDo L q else (Lz, 6)
set_option maxHeartbeats 8000000 in
set_option maxRecDepth 100000 in
theorem drop_any0 (A : Option Addr) (c : Nat) (l : List S67) (dn : Bool) (fu fa size fr : Int) (n : Nat) (br : Bool) (q : Int) (hq : 0 ≤ q) (w : World) (hr : Kd.C k67 w A l.length l) (hc : l.length ≤ c) (hG : Gl w) (hn : n < 18446744073709551616) :
    Calls Tryz.prog 34 #[.agg #[.slice A l.length c, .bool dn, .int .i64 fu, .int .i64 fa, .int .i64 size, .int .u64 fr, .int .u64 (n : Int), .bool br], .int .u64 q] w fun e w' => ∃ A' c', e = .returned (.tuple #[.agg (lgc A' c' (dropL ⟨l, dn, fu, fa, size, fr, (n : Int), br⟩ q).1).toArray, .int .i64 (dropL ⟨l, dn, fu, fa, size, fr, (n : Int), br⟩ q).2])
      ∧ Aside0 (Sep w w' [rowF A' c' (dropL ⟨l, dn, fu, fa, size, fr, (n : Int), br⟩ q).1.l]) := by
  have HRp := Aside0.mk hr
  have HCp := Aside0.mk hc
  have HG := Aside0.mk hG
  clear hr hc hG
  obtain ⟨O, hO⟩ : ∃ O, O = dropL ⟨l, dn, fu, fa, size, fr, (n : Int), br⟩ q := ⟨_, rfl⟩
  rw [← hO]
  have HO := Aside0.mk hO
  clear hO
  have H := Aside0.mk (Sep.start w)
  go_enter Tryz.func34, Tryz.ntmps34
  go_wp2_with (first
 | ((with_reducible refine gate_dst (N := 2) rfl ?_);
    refine new_box rfl H (cs := [.slice A l.length c, .bool dn, .int .i64 fu, .int .i64 fa, .int .i64 size, .int .u64 fr, .int .u64 (n : Int), .bool br]) (t := 30) ?hr ?_;
    (case hr => first | (go_simp; done) | (go_simp; rfl));
    intro gm wd1 n_;
    simp only [Act.put, List.setIfInBounds_toArray, List.set_cons_zero, List.set_cons_succ];
    clear H;
    have H := n_;
    clear n_;
    have c_m := H.out.cell (g := gm) mem0)
 | ((with_reducible refine gate_dst (N := 3) rfl ?_);
    refine new_box rfl H (cs := [.int .u64 q]) (t := 28) ?hr ?_;
    (case hr => first | (go_simp; done) | (go_simp; rfl));
    intro gt wd2 n_;
    simp only [Act.put, List.setIfInBounds_toArray, List.set_cons_zero, List.set_cons_succ];
    clear H c_m;
    have H := n_;
    clear n_;
    have c_t := H.out.cell (g := gt) mem0;
    have c_m := H.out.cell (g := gm) mem1)
 | ((with_reducible refine gate_dst (N := 4) rfl ?_);
    refine new_box rfl H (cs := [.slice none 0 0, .bool false, .int .i64 0, .int .i64 0, .int .i64 0, .int .u64 0, .int .u64 0, .bool false]) (t := 30) ?hr ?_;
    (case hr => first | (go_simp; done) | (go_simp; rfl));
    intro gz wd3 n_;
    simp only [Act.put, List.setIfInBounds_toArray, List.set_cons_zero, List.set_cons_succ];
    clear H c_t c_m;
    have H := n_;
    clear n_;
    have c_z := H.out.cell (g := gz) mem0;
    have c_t := H.out.cell (g := gt) mem1;
    have c_m := H.out.cell (g := gm) mem2)
 | fail)
  by_cases hok : okL ⟨l, dn, fu, fa, size, fr, (n : Int), br⟩
  ·
    refine ((segment_Check.calls A c l dn fu fa size fr (n : Int) br 0 _ (H.out.came HRp.out) HCp.out (by have h := check_eq ⟨l, dn, fu, fa, size, fr, (n : Int), br⟩; rw [if_pos hok] at h; exact h)).mono ?_)
    rintro e wd4 ⟨rfl, hb_⟩
    have n_ : Aside0 (Sep w wd4 [box gz [.slice none 0 0, .bool false, .int .i64 0, .int .i64 0, .int .i64 0, .int .u64 0, .int .u64 0, .bool false] 30, box gt [.int .u64 q] 28, box gm [.slice A l.length c, .bool dn, .int .i64 fu, .int .i64 fa, .int .i64 size, .int .u64 fr, .int .u64 (n : Int), .bool br] 30]) := ⟨H.out.step hb_⟩
    clear H c_z c_t c_m
    have H := n_
    clear n_
    have c_z := H.out.cell (g := gz) mem0
    have c_t := H.out.cell (g := gt) mem1
    have c_m := H.out.cell (g := gm) mem2
    clear hb_
    have hlen : l.length ≤ 64 := right_len hok.1
    have hs1 : 1 ≤ size := hok.2.1
    have hs2 : size ≤ 262144 := hok.2.2.1
    have hok1 : rightF l = true := hok.1
    have HOK1 := Aside0.mk hok1
    have hOV : O = dropDo ⟨l, dn, fu, fa, size, fr, (n : Int), br⟩ q := by rw [HO.out, dropL, if_pos hok]
    have HOV := Aside0.mk hOV
    clear hok hok1 HO hOV
    go_wp2_with fail
    refine ((own_any A c l dn fu fa _ (H.out.came HRp.out) hlen).mono ?_)
    rintro e wd5 ⟨A3, c3, rfl, HJ⟩
    have n_ : Aside0 (Sep w wd5 [row k67 67 (.slice A3 (l).length c3) l, box gz [.slice none 0 0, .bool false, .int .i64 0, .int .i64 0, .int .i64 0, .int .u64 0, .int .u64 0, .bool false] 30, box gt [.int .u64 q] 28, box gm [.slice A l.length c, .bool dn, .int .i64 fu, .int .i64 fa, .int .i64 size, .int .u64 fr, .int .u64 (n : Int), .bool br] 30]) := ⟨sep_join H.out HJ.out⟩
    clear H c_z c_t c_m
    have H := n_
    clear n_
    have c_z := H.out.cell (g := gz) mem1
    have c_t := H.out.cell (g := gt) mem2
    have c_m := H.out.cell (g := gm) mem3
    have z_m := H.out.frozen (g := gm) mem3
    clear HJ
    go_wp2_with (first
 | ((with_reducible refine gate_store (t := 27) (p := 14) rfl ?_);
    refine put_box (rs1 := [row k67 67 (.slice A3 (l).length c3) l, box gz [.slice none 0 0, .bool false, .int .i64 0, .int .i64 0, .int .i64 0, .int .u64 0, .int .u64 0, .bool false] 30, box gt [.int .u64 q] 28, box gm [.slice A3 l.length c3, .bool dn, .int .i64 fu, .int .i64 fa, .int .i64 size, .int .u64 fr, .int .u64 (n : Int), .bool br] 30]) rfl (t := 27) (p := 14) rfl rfl ?hr (H1 := (Sep.set3 (Sep.set3 (Sep.set3 (Sep.set3 H.out 0 (.slice A3 l.length c3) rfl) 1 (.bool dn) rfl) 2 (.int .i64 fu) rfl) 3 (.int .i64 fa) rfl)) ?_;
    (case hr => first | (go_simp; done) | (go_simp; rfl));
    intro wd6 n_;
    clear H c_z c_t c_m z_m;
    have H := n_;
    clear n_;
    have c_z := H.out.cell (g := gz) mem1;
    have c_t := H.out.cell (g := gt) mem2;
    have c_m := H.out.cell (g := gm) mem3;
    have z_m := H.out.frozen (g := gm) mem3)
 | ((with_reducible refine gate_dst (N := 17) rfl ?_);
    refine new_box rfl H (cs := [.slice A3 l.length c3, .bool dn, .int .i64 fu, .int .i64 fa, .int .i64 size, .int .u64 fr, .int .u64 (n : Int), .bool br]) (t := 134) ?hr ?_;
    (case hr => first | (go_simp; done) | (go_simp; rfl));
    intro gl wd7 n_;
    simp only [Act.put, List.setIfInBounds_toArray, List.set_cons_zero, List.set_cons_succ];
    clear H c_z c_t c_m z_m;
    have H := n_;
    clear n_;
    have c_l := H.out.cell (g := gl) mem0;
    have c_z := H.out.cell (g := gz) mem2;
    have c_t := H.out.cell (g := gt) mem3;
    have c_m := H.out.cell (g := gm) mem4;
    have z_m := H.out.frozen (g := gm) mem4)
 | ((with_reducible refine gate_dst (N := 6) rfl ?_);
    refine new_box rfl H (cs := [.pointer none]) (t := 131) ?hr ?_;
    (case hr => first | (go_simp; done) | (go_simp; rfl));
    intro gv wd8 n_;
    simp only [Act.put, List.setIfInBounds_toArray, List.set_cons_zero, List.set_cons_succ];
    clear H c_l c_z c_t c_m z_m;
    have H := n_;
    clear n_;
    have c_v := H.out.cell (g := gv) mem0;
    have z_v := H.out.frozen (g := gv) mem0;
    have c_l := H.out.cell (g := gl) mem1;
    have c_z := H.out.cell (g := gz) mem3;
    have c_t := H.out.cell (g := gt) mem4;
    have c_m := H.out.cell (g := gm) mem5;
    have z_m := H.out.frozen (g := gm) mem5)
 | ((with_reducible refine gate_store (t := 131) (p := 6) rfl ?_);
    refine put_box (rs1 := [box gv [.pointer (some ⟨gl, 0, none⟩)] 131, box gl [.slice A3 l.length c3, .bool dn, .int .i64 fu, .int .i64 fa, .int .i64 size, .int .u64 fr, .int .u64 (n : Int), .bool br] 134, row k67 67 (.slice A3 (l).length c3) l, box gz [.slice none 0 0, .bool false, .int .i64 0, .int .i64 0, .int .i64 0, .int .u64 0, .int .u64 0, .bool false] 30, box gt [.int .u64 q] 28, box gm [.slice A3 l.length c3, .bool dn, .int .i64 fu, .int .i64 fa, .int .i64 size, .int .u64 fr, .int .u64 (n : Int), .bool br] 30]) rfl (t := 131) (p := 6) rfl rfl ?hr (H1 := (Sep.set0 H.out 0 (.pointer (some ⟨gl, 0, none⟩)) rfl)) ?_;
    (case hr => first | (go_simp; done) | (go_simp; rfl));
    intro wd9 n_;
    clear H c_v z_v c_l c_z c_t c_m z_m;
    have H := n_;
    clear n_;
    have c_v := H.out.cell (g := gv) mem0;
    have z_v := H.out.frozen (g := gv) mem0;
    have c_l := H.out.cell (g := gl) mem1;
    have c_z := H.out.cell (g := gz) mem3;
    have c_t := H.out.cell (g := gt) mem4;
    have c_m := H.out.cell (g := gm) mem5;
    have z_m := H.out.frozen (g := gm) mem5)
 | fail)
    have hdo := doesL_frame (drop_do w gl gm gt gv l dn fu fa size fr n br q A3 c3 HOK1.out (HG.out) hn hq) [box gz [.slice none 0 0, .bool false, .int .i64 0, .int .i64 0, .int .i64 0, .int .u64 0, .int .u64 0, .bool false] 30]
    rw [← HOV.out] at hdo
    refine (caught_any hdo (fun args w => by simp [go_sem]) A3 c3 _ ⟨(Sep.front5 (Sep.front5 (Sep.front5 (Sep.front4 (Sep.front1 (Sep.front3 H.out))))))⟩).mono ?_
    rintro e wd10 ⟨A4, c4, rfl, H2⟩
    clear hdo
    have n_ : Aside0 (Sep w wd10 [box gl [.slice A4 O.1.l.length c4, .bool O.1.dn, .int .i64 O.1.fu, .int .i64 O.1.fa, .int .i64 O.1.size, .int .u64 O.1.fr, .int .u64 O.1.nx, .bool O.1.br] 134, row k67 67 (.slice A4 (O.1.l).length c4) O.1.l, box gm [.slice A3 l.length c3, .bool dn, .int .i64 fu, .int .i64 fa, .int .i64 size, .int .u64 fr, .int .u64 (n : Int), .bool br] 30, box gt [.int .u64 q] 28, box gv [.pointer (some ⟨gl, 0, none⟩)] 131, box gz [.slice none 0 0, .bool false, .int .i64 0, .int .i64 0, .int .i64 0, .int .u64 0, .int .u64 0, .bool false] 30]) := ⟨H2.out⟩
    clear H c_v z_v c_l c_z c_t c_m z_m
    have H := n_
    clear n_
    have c_l := H.out.cell (g := gl) mem0
    have c_m := H.out.cell (g := gm) mem2
    have c_t := H.out.cell (g := gt) mem3
    have c_v := H.out.cell (g := gv) mem4
    have c_z := H.out.cell (g := gz) mem5
    have z_z := H.out.frozen (g := gz) mem5
    clear H2
    simp only [lgc]
    go_wp2_with (first
 | ((with_reducible refine gate_store (t := 30) (p := 4) rfl ?_);
    refine put_box (rs1 := [box gl [.slice A4 O.1.l.length c4, .bool O.1.dn, .int .i64 O.1.fu, .int .i64 O.1.fa, .int .i64 O.1.size, .int .u64 O.1.fr, .int .u64 O.1.nx, .bool O.1.br] 134, row k67 67 (.slice A4 (O.1.l).length c4) O.1.l, box gm [.slice A3 l.length c3, .bool dn, .int .i64 fu, .int .i64 fa, .int .i64 size, .int .u64 fr, .int .u64 (n : Int), .bool br] 30, box gt [.int .u64 q] 28, box gv [.pointer (some ⟨gl, 0, none⟩)] 131, box gz [.slice A4 O.1.l.length c4, .bool O.1.dn, .int .i64 O.1.fu, .int .i64 O.1.fa, .int .i64 O.1.size, .int .u64 O.1.fr, .int .u64 O.1.nx, .bool O.1.br] 30]) rfl (t := 30) (p := 4) rfl rfl ?hr (H1 := (Sep.set5 (Sep.set5 (Sep.set5 (Sep.set5 (Sep.set5 (Sep.set5 (Sep.set5 (Sep.set5 H.out 0 (.slice A4 O.1.l.length c4) rfl) 1 (.bool O.1.dn) rfl) 2 (.int .i64 O.1.fu) rfl) 3 (.int .i64 O.1.fa) rfl) 4 (.int .i64 O.1.size) rfl) 5 (.int .u64 O.1.fr) rfl) 6 (.int .u64 O.1.nx) rfl) 7 (.bool O.1.br) rfl)) ?_;
    (case hr => first | (go_simp; done) | (go_simp; rfl));
    intro wd11 n_;
    clear H c_l c_m c_t c_v c_z z_z;
    have H := n_;
    clear n_;
    have c_l := H.out.cell (g := gl) mem0;
    have c_m := H.out.cell (g := gm) mem2;
    have c_t := H.out.cell (g := gt) mem3;
    have c_v := H.out.cell (g := gv) mem4;
    have c_z := H.out.cell (g := gz) mem5;
    have z_z := H.out.frozen (g := gz) mem5)
 | fail)
    refine bodyPost_ret (results_list (rs := [.cell 4 30, .tmp 5]) rfl (by simp) (.cell gz 30 _ _ _ rfl (H.out.box_ (g := gz) mem5) Tryz.underlying30 rfl info30 (.tmp .nil))) rfl ?_
    exact ⟨A4, c4, rfl, ⟨(Sep.drop0 (Sep.drop2 (Sep.drop3 (Sep.drop4 (Sep.drop5 H.out)))))⟩⟩
  ·
    refine ((segment_Check.calls A c l dn fu fa size fr (n : Int) br 6 _ (H.out.came HRp.out) HCp.out (by have h := check_eq ⟨l, dn, fu, fa, size, fr, (n : Int), br⟩; rw [if_neg hok] at h; exact h)).mono ?_)
    rintro e wd12 ⟨rfl, hb_⟩
    have n_ : Aside0 (Sep w wd12 [box gz [.slice none 0 0, .bool false, .int .i64 0, .int .i64 0, .int .i64 0, .int .u64 0, .int .u64 0, .bool false] 30, box gt [.int .u64 q] 28, box gm [.slice A l.length c, .bool dn, .int .i64 fu, .int .i64 fa, .int .i64 size, .int .u64 fr, .int .u64 (n : Int), .bool br] 30]) := ⟨H.out.step hb_⟩
    clear H c_z c_t c_m
    have H := n_
    clear n_
    have c_z := H.out.cell (g := gz) mem0
    have c_t := H.out.cell (g := gt) mem1
    have c_m := H.out.cell (g := gm) mem2
    clear hb_
    have hOV : O = (Lz, 6) := by rw [HO.out, dropL, if_neg hok]
    clear HO hok
    clear c_z c_t c_m
    have c_z := H.out.cell (g := gz) mem0
    have z_z := H.out.frozen (g := gz) mem0
    have c_t := H.out.cell (g := gt) mem1
    have c_m := H.out.cell (g := gm) mem2
    go_wp2_with (first
 | ((with_reducible refine gate_store (t := 30) (p := 4) rfl ?_);
    refine put_box (rs1 := [box gz [.slice none 0 0, .bool false, .int .i64 0, .int .i64 0, .int .i64 0, .int .u64 0, .int .u64 0, .bool false] 30, box gt [.int .u64 q] 28, box gm [.slice A l.length c, .bool dn, .int .i64 fu, .int .i64 fa, .int .i64 size, .int .u64 fr, .int .u64 (n : Int), .bool br] 30]) rfl (t := 30) (p := 4) rfl rfl ?hr (H1 := (Sep.set0 (Sep.set0 (Sep.set0 (Sep.set0 (Sep.set0 (Sep.set0 (Sep.set0 (Sep.set0 H.out 0 (.slice none 0 0) rfl) 1 (.bool false) rfl) 2 (.int .i64 0) rfl) 3 (.int .i64 0) rfl) 4 (.int .i64 0) rfl) 5 (.int .u64 0) rfl) 6 (.int .u64 0) rfl) 7 (.bool false) rfl)) ?_;
    (case hr => first | (go_simp; done) | (go_simp; rfl));
    intro wd13 n_;
    clear H c_z z_z c_t c_m;
    have H := n_;
    clear n_;
    have c_z := H.out.cell (g := gz) mem0;
    have z_z := H.out.frozen (g := gz) mem0;
    have c_t := H.out.cell (g := gt) mem1;
    have c_m := H.out.cell (g := gm) mem2)
 | fail)
    refine bodyPost_ret (results_list (rs := [.cell 4 30, .tmp 5]) rfl (by simp) (.cell gz 30 _ _ _ rfl (H.out.box_ (g := gz) mem0) Tryz.underlying30 rfl info30 (.tmp .nil))) rfl ?_
    subst hOV
    exact ⟨none, 0, rfl, ⟨Sep.push_nil (Sep.drop0 (Sep.drop1 (Sep.drop2 H.out)))⟩⟩
theorem drop_any (A : Option Addr) (c : Nat) (L : Lg) (q : Int) (hq : 0 ≤ q) (w : World) (hr : Kd.C k67 w A L.l.length L.l) (hc : L.l.length ≤ c) (hG : Gl w) (h0 : 0 ≤ L.nx) (hn : L.nx < 18446744073709551616) :
    Calls Tryz.prog 34 #[.agg (lgc A c L).toArray, .int .u64 q] w fun e w' => ∃ A' c', e = .returned (.tuple #[.agg (lgc A' c' (dropL L q).1).toArray, .int .i64 (dropL L q).2])
      ∧ Aside0 (Sep w w' [rowF A' c' (dropL L q).1.l]) := by
  obtain ⟨l, dn, fu, fa, size, fr, nx, br⟩ := L
  obtain ⟨n, hnn⟩ := Int.eq_ofNat_of_zero_le h0
  simp only at hnn
  subst hnn
  simp only at hn
  exact drop_any0 A c l dn fu fa size fr n br q hq w hr hc hG (by omega)
end Go.Proofs.YtanonhipicoigaaGreatDoor.U
namespace Go.Proofs.YtanonhipicoigaaGreatDoor.U
open Go.RowKit Go.Proofs.YtanonhipicoigaaGreatDoorW.PrintWords Go.Proofs.YtanonhipicoigaaGreatDoorW.PrintLast Go.Proofs.YtanonhipicoigaaGreatDoorW.PrintMore
attribute [local go_sem] max2_int min2_int max_two min_two max_three min_three max_four min_four   -- for this text's walks alone
set_option linter.unusedVariables false
set_option linter.unusedSimpArgs false
theorem eqA67 (d : Nat) (w : World) (x0 y0 : ByteArray) (x1 y1 : ByteArray) (x2 y2 : Int) :
    (Op.equalIn (d + 2) 67 (.agg #[.string x0, .string x1, .int .i64 x2]) (.agg #[.string y0, .string y1, .int .i64 y2])).run Tryz.prog w = .ok (x0.toList == y0.toList && (x1.toList == y1.toList && (x2 == y2))) w := by
  refine eqA_of Tryz.underlying67 (by kernel_rfl) ?_
  refine eqf_cons (by rfl) (by go_simp; rfl) (by go_simp; rfl) (by go_simp) ?_
  refine eqf_cons (by rfl) (by go_simp; rfl) (by go_simp; rfl) (by go_simp) ?_
  exact eqf_last (by rfl) (by go_simp; rfl) (by go_simp; rfl) (by go_simp)
end Go.Proofs.YtanonhipicoigaaGreatDoor.U
namespace Go.Proofs.YtanonhipicoigaaGreatDoor.U
open Go.RowKit Go.Proofs.YtanonhipicoigaaGreatDoorW.PrintWords Go.Proofs.YtanonhipicoigaaGreatDoorW.PrintLast Go.Proofs.YtanonhipicoigaaGreatDoorW.PrintMore
attribute [local go_sem] max2_int min2_int max_two min_two max_three min_three max_four min_four   -- for this text's walks alone
set_option linter.unusedVariables false
set_option linter.unusedSimpArgs false
attribute [local go_sem high] eqA67
/-! ### penstockref09_Same: function 75 -/
mutual
def penstockref09_Same.j0 : Nat → Bool → List (S67) → Bool → Int → Int → List (S67) → Bool → Int → Int → Option (Bool)
  | 0, _, _, _, _, _, _, _, _, _ => none
  | k + 1, x33, x170000, x170001, x170002, x170003, x171000, x171001, x171002, x171003 => if x33 = true then (some false) else (penstockref09_Same.l0 k (x170000.length : Int) 0 x170000 x170001 x170002 x170003 x171000 x171001 x171002 x171003)
def penstockref09_Same.l0 : Nat → Int → Int → List (S67) → Bool → Int → Int → List (S67) → Bool → Int → Int → Option (Bool)
  | 0, _, _, _, _, _, _, _, _, _, _ => none
  | k + 1, x36, x37, x170000, x170001, x170002, x170003, x171000, x171001, x171002, x171003 => if x37 < x36 then (if 0 ≤ x37 then (if x37 < (x170000.length : Int) then (if x37 < (x171000.length : Int) then (if (!((((rd_T67 x170000 x37).f0).toList) == (((rd_T67 x171000 x37).f0).toList)) || (!((((rd_T67 x170000 x37).f1).toList) == (((rd_T67 x171000 x37).f1).toList)) || (!(((rd_T67 x170000 x37).f2) == ((rd_T67 x171000 x37).f2))))) = true then (some false) else (penstockref09_Same.l0 k x36 (wrap64 (x37 + 1)) x170000 x170001 x170002 x170003 x171000 x171001 x171002 x171003)) else (none)) else (none)) else (none)) else (some true)
end
def penstockref09_Same.f (k : Nat) (l0_0 : List (S67)) (a0_1 : Bool) (a0_2 : Int) (a0_3 : Int) (l1_0 : List (S67)) (a1_1 : Bool) (a1_2 : Int) (a1_3 : Int) : Option (Bool) := if (a0_1 != a1_1) = true then (penstockref09_Same.j0 k true l0_0 a0_1 a0_2 a0_3 l1_0 a1_1 a1_2 a1_3) else (if a0_2 = a1_2 then (if a0_3 = a1_3 then (penstockref09_Same.j0 k ((l0_0.length : Int) != (l1_0.length : Int)) l0_0 a0_1 a0_2 a0_3 l1_0 a1_1 a1_2 a1_3) else (penstockref09_Same.j0 k true l0_0 a0_1 a0_2 a0_3 l1_0 a1_1 a1_2 a1_3)) else (penstockref09_Same.j0 k true l0_0 a0_1 a0_2 a0_3 l1_0 a1_1 a1_2 a1_3))
theorem penstockref09_Same.mono_l : ∀ k, (∀ y0 y1 y2 y3 y4 y5 y6 y7 y8, LeO (penstockref09_Same.j0 k y0 y1 y2 y3 y4 y5 y6 y7 y8) (penstockref09_Same.j0 (k + 1) y0 y1 y2 y3 y4 y5 y6 y7 y8)) ∧ (∀ y0 y1 y2 y3 y4 y5 y6 y7 y8 y9, LeO (penstockref09_Same.l0 k y0 y1 y2 y3 y4 y5 y6 y7 y8 y9) (penstockref09_Same.l0 (k + 1) y0 y1 y2 y3 y4 y5 y6 y7 y8 y9))
  | 0 => ⟨fun _ _ _ _ _ _ _ _ _ r h => by simp [penstockref09_Same.j0] at h, fun _ _ _ _ _ _ _ _ _ _ r h => by simp [penstockref09_Same.l0] at h⟩
  | k + 1 => by
    obtain ⟨ih0, ih1⟩ := penstockref09_Same.mono_l k
    refine ⟨?_, ?_⟩
    · intro y0 y1 y2 y3 y4 y5 y6 y7 y8
      unfold penstockref09_Same.j0
      repeat' first
      | (with_reducible exact ih0 _ _ _ _ _ _ _ _ _)
      | (with_reducible exact ih1 _ _ _ _ _ _ _ _ _ _)
      | (with_reducible exact LeO.refl _)
      | (with_reducible exact LeO.none _)
      | (with_reducible refine LeO.ite ?_ ?_)
      | (with_reducible refine LeO.bind ?_ (fun _ => ?_))
      | exact ih0 _ _ _ _ _ _ _ _ _
      | exact ih1 _ _ _ _ _ _ _ _ _ _
      | exact LeO.none _
      | refine LeO.ite ?_ ?_
      | refine LeO.bind ?_ (fun _ => ?_)
    · intro y0 y1 y2 y3 y4 y5 y6 y7 y8 y9
      unfold penstockref09_Same.l0
      repeat' first
      | (with_reducible exact ih0 _ _ _ _ _ _ _ _ _)
      | (with_reducible exact ih1 _ _ _ _ _ _ _ _ _ _)
      | (with_reducible exact LeO.refl _)
      | (with_reducible exact LeO.none _)
      | (with_reducible refine LeO.ite ?_ ?_)
      | (with_reducible refine LeO.bind ?_ (fun _ => ?_))
      | exact ih0 _ _ _ _ _ _ _ _ _
      | exact ih1 _ _ _ _ _ _ _ _ _ _
      | exact LeO.none _
      | refine LeO.ite ?_ ?_
      | refine LeO.bind ?_ (fun _ => ?_)
theorem penstockref09_Same.mono : ∀ a0 a1 a2 a3 a4 a5 a6 a7 k, LeO (penstockref09_Same.f k a0 a1 a2 a3 a4 a5 a6 a7) (penstockref09_Same.f (k + 1) a0 a1 a2 a3 a4 a5 a6 a7) := by
  intro a0 a1 a2 a3 a4 a5 a6 a7 k
  obtain ⟨ih0, ih1⟩ := penstockref09_Same.mono_l k
  unfold penstockref09_Same.f
  repeat' first
      | (with_reducible exact ih0 _ _ _ _ _ _ _ _ _)
      | (with_reducible exact ih1 _ _ _ _ _ _ _ _ _ _)
      | (with_reducible exact LeO.refl _)
      | (with_reducible exact LeO.none _)
      | (with_reducible refine LeO.ite ?_ ?_)
      | (with_reducible refine LeO.bind ?_ (fun _ => ?_))
      | exact ih0 _ _ _ _ _ _ _ _ _
      | exact ih1 _ _ _ _ _ _ _ _ _ _
      | exact LeO.none _
      | refine LeO.ite ?_ ?_
      | refine LeO.bind ?_ (fun _ => ?_)
set_option maxHeartbeats 8000000 in
set_option maxRecDepth 100000 in
theorem penstockref09_Same.calls (k : Nat) (A0_0 : Option Addr) (c0_0 : Nat) (l0_0 : List (S67)) (a0_1 : Bool) (a0_2 : Int) (a0_3 : Int) (A1_0 : Option Addr) (c1_0 : Nat) (l1_0 : List (S67)) (a1_1 : Bool) (a1_2 : Int) (a1_3 : Int) (r : Bool) (w : World) (hr0_0 : Kd.C k67 w A0_0 l0_0.length l0_0) (hc0_0 : l0_0.length ≤ c0_0) (hr1_0 : Kd.C k67 w A1_0 l1_0.length l1_0) (hc1_0 : l1_0.length ≤ c1_0) (h : penstockref09_Same.f k l0_0 a0_1 a0_2 a0_3 l1_0 a1_1 a1_2 a1_3 = some r) :
    Calls Tryz.prog 75 #[.agg #[.slice A0_0 l0_0.length c0_0, .bool a0_1, .int .i64 a0_2, .int .i64 a0_3], .agg #[.slice A1_0 l1_0.length c1_0, .bool a1_1, .int .i64 a1_2, .int .i64 a1_3]] w fun e w' => e = .returned (.bool r) ∧ Below w.heap.size w w' := by
  have hu27 := Tryz.underlying27
  have hu67 := Tryz.underlying67
  have HR0_0 := Aside0.mk hr0_0
  have HC0_0 := Aside0.mk hc0_0
  clear hr0_0 hc0_0
  have HR1_0 := Aside0.mk hr1_0
  have HC1_0 := Aside0.mk hc1_0
  clear hr1_0 hc1_0
  have HB := Aside0.mk (Below.refl w.heap.size w)
  have H : (if (a0_1 != a1_1) = true then (penstockref09_Same.j0 k true l0_0 a0_1 a0_2 a0_3 l1_0 a1_1 a1_2 a1_3) else (if a0_2 = a1_2 then (if a0_3 = a1_3 then (penstockref09_Same.j0 k ((l0_0.length : Int) != (l1_0.length : Int)) l0_0 a0_1 a0_2 a0_3 l1_0 a1_1 a1_2 a1_3) else (penstockref09_Same.j0 k true l0_0 a0_1 a0_2 a0_3 l1_0 a1_1 a1_2 a1_3)) else (penstockref09_Same.j0 k true l0_0 a0_1 a0_2 a0_3 l1_0 a1_1 a1_2 a1_3))) = some r := h
  clear h
  have HC3 := Aside0.mk H
  clear H
  go_enter Tryz.func75, Tryz.ntmps75
  go_upto_region 1 with (first | ((with_reducible refine gate_dst (N := 2) rfl ?_); (try (refine gate_guard (by rfl) ?_; dsimp only)); refine box_event ?hg (N := 2) ?hd (cs := #[.slice A0_0 l0_0.length c0_0, .bool a0_1, .int .i64 a0_2, .int .i64 a0_3]) (t := 27) ?hr ?_; (case hd => rfl); (case hg => rfl); (case hr => first | (go_simp; done) | (go_simp; rfl)); intro gb169 hg w4 hbox hb; have n0_ := Aside0.mk (below_step (by repeat (first | (with_reducible first | exact HB.out | apply below_alloc | apply pw_below_drewN | apply below_drew1) | exact HB.out)) hb); have n1_ := Aside0.mk (hbox); have n2_ := Aside0.mk ((by rw [hg]; exact (below_size (by repeat (first | (with_reducible first | exact HB.out | apply below_alloc | apply pw_below_drewN | apply below_drew1) | exact HB.out))) : w.heap.size ≤ gb169)); have n3_ := Aside0.mk ((by rw [hg]; exact (below_size (by repeat (first | (with_reducible first | exact HB.out | apply below_alloc | apply pw_below_drewN | apply below_drew1) | exact HB.out))) : w.heap.size ≤ gb169)); clear HB; have HB := n0_; have BK169 := n1_; have GW169 := n2_; have GE169 := n3_; clear n0_ n1_ n2_ n3_; clear hb hbox hg) | ((with_reducible refine gate_dst (N := 3) rfl ?_); (try (refine gate_guard (by rfl) ?_; dsimp only)); refine box_event ?hg (N := 3) ?hd (cs := #[.slice A1_0 l1_0.length c1_0, .bool a1_1, .int .i64 a1_2, .int .i64 a1_3]) (t := 27) ?hr ?_; (case hd => rfl); (case hg => rfl); (case hr => first | (go_simp; done) | (go_simp; rfl)); intro gb170 hg w5 hbox hb; have n0_ := Aside0.mk (blk_below (g := gb169) (o := .cells #[.slice A0_0 l0_0.length c0_0, .bool a0_1, .int .i64 a0_2, .int .i64 a0_3] 27 (0, 0)) (by (with_reducible repeat (first | refine blk_drewN ?_ _ | refine blk_drew ?_ | refine blk_alloc ?_ _)); exact BK169.out) hb); have n1_ := Aside0.mk (below_step (by repeat (first | (with_reducible first | exact HB.out | apply below_alloc | apply pw_below_drewN | apply below_drew1 | refine below_set ?_ GE169.out) | exact HB.out)) hb); have n2_ := Aside0.mk (hbox); have n3_ := Aside0.mk ((by rw [hg]; exact (below_size (by repeat (first | (with_reducible first | exact HB.out | apply below_alloc | apply pw_below_drewN | apply below_drew1 | refine below_set ?_ GE169.out) | exact HB.out))) : w.heap.size ≤ gb170)); have n4_ := Aside0.mk ((by rw [hg]; exact (below_size (by repeat (first | (with_reducible first | exact HB.out | apply below_alloc | apply pw_below_drewN | apply below_drew1 | refine below_set ?_ GE169.out) | exact HB.out))) : w.heap.size ≤ gb170)); have n5_ := Aside0.mk ((by rw [hg]; exact Nat.ne_of_lt (blk_lt (g := gb169) (o := .cells #[.slice A0_0 l0_0.length c0_0, .bool a0_1, .int .i64 a0_2, .int .i64 a0_3] 27 (0, 0)) (by (with_reducible repeat (first | refine blk_drewN ?_ _ | refine blk_drew ?_ | refine blk_alloc ?_ _)); exact BK169.out)) : gb169 ≠ gb170)); have n6_ := Aside0.mk ((by rw [hg]; exact Nat.ne_of_gt (blk_lt (g := gb169) (o := .cells #[.slice A0_0 l0_0.length c0_0, .bool a0_1, .int .i64 a0_2, .int .i64 a0_3] 27 (0, 0)) (by (with_reducible repeat (first | refine blk_drewN ?_ _ | refine blk_drew ?_ | refine blk_alloc ?_ _)); exact BK169.out)) : gb170 ≠ gb169)); clear BK169; clear HB; have BK169 := n0_; have HB := n1_; have BK170 := n2_; have GW170 := n3_; have GE170 := n4_; have NB169_170 := n5_; have NB170_169 := n6_; clear n0_ n1_ n2_ n3_ n4_ n5_ n6_; clear hb hbox hg))
  repeat (go_quiet (first | ((with_reducible refine gate_dst (N := 2) rfl ?_); (try (refine gate_guard (by rfl) ?_; dsimp only)); refine box_event ?hg (N := 2) ?hd (cs := #[.slice A0_0 l0_0.length c0_0, .bool a0_1, .int .i64 a0_2, .int .i64 a0_3]) (t := 27) ?hr ?_; (case hd => rfl); (case hg => rfl); (case hr => first | (go_simp; done) | (go_simp; rfl)); intro gb169 hg w4 hbox hb; have n0_ := Aside0.mk (below_step (by repeat (first | (with_reducible first | exact HB.out | apply below_alloc | apply pw_below_drewN | apply below_drew1) | exact HB.out)) hb); have n1_ := Aside0.mk (hbox); have n2_ := Aside0.mk ((by rw [hg]; exact (below_size (by repeat (first | (with_reducible first | exact HB.out | apply below_alloc | apply pw_below_drewN | apply below_drew1) | exact HB.out))) : w.heap.size ≤ gb169)); have n3_ := Aside0.mk ((by rw [hg]; exact (below_size (by repeat (first | (with_reducible first | exact HB.out | apply below_alloc | apply pw_below_drewN | apply below_drew1) | exact HB.out))) : w.heap.size ≤ gb169)); clear HB; have HB := n0_; have BK169 := n1_; have GW169 := n2_; have GE169 := n3_; clear n0_ n1_ n2_ n3_; clear hb hbox hg) | ((with_reducible refine gate_dst (N := 3) rfl ?_); (try (refine gate_guard (by rfl) ?_; dsimp only)); refine box_event ?hg (N := 3) ?hd (cs := #[.slice A1_0 l1_0.length c1_0, .bool a1_1, .int .i64 a1_2, .int .i64 a1_3]) (t := 27) ?hr ?_; (case hd => rfl); (case hg => rfl); (case hr => first | (go_simp; done) | (go_simp; rfl)); intro gb170 hg w5 hbox hb; have n0_ := Aside0.mk (blk_below (g := gb169) (o := .cells #[.slice A0_0 l0_0.length c0_0, .bool a0_1, .int .i64 a0_2, .int .i64 a0_3] 27 (0, 0)) (by (with_reducible repeat (first | refine blk_drewN ?_ _ | refine blk_drew ?_ | refine blk_alloc ?_ _)); exact BK169.out) hb); have n1_ := Aside0.mk (below_step (by repeat (first | (with_reducible first | exact HB.out | apply below_alloc | apply pw_below_drewN | apply below_drew1 | refine below_set ?_ GE169.out) | exact HB.out)) hb); have n2_ := Aside0.mk (hbox); have n3_ := Aside0.mk ((by rw [hg]; exact (below_size (by repeat (first | (with_reducible first | exact HB.out | apply below_alloc | apply pw_below_drewN | apply below_drew1 | refine below_set ?_ GE169.out) | exact HB.out))) : w.heap.size ≤ gb170)); have n4_ := Aside0.mk ((by rw [hg]; exact (below_size (by repeat (first | (with_reducible first | exact HB.out | apply below_alloc | apply pw_below_drewN | apply below_drew1 | refine below_set ?_ GE169.out) | exact HB.out))) : w.heap.size ≤ gb170)); have n5_ := Aside0.mk ((by rw [hg]; exact Nat.ne_of_lt (blk_lt (g := gb169) (o := .cells #[.slice A0_0 l0_0.length c0_0, .bool a0_1, .int .i64 a0_2, .int .i64 a0_3] 27 (0, 0)) (by (with_reducible repeat (first | refine blk_drewN ?_ _ | refine blk_drew ?_ | refine blk_alloc ?_ _)); exact BK169.out)) : gb169 ≠ gb170)); have n6_ := Aside0.mk ((by rw [hg]; exact Nat.ne_of_gt (blk_lt (g := gb169) (o := .cells #[.slice A0_0 l0_0.length c0_0, .bool a0_1, .int .i64 a0_2, .int .i64 a0_3] 27 (0, 0)) (by (with_reducible repeat (first | refine blk_drewN ?_ _ | refine blk_drew ?_ | refine blk_alloc ?_ _)); exact BK169.out)) : gb170 ≠ gb169)); clear BK169; clear HB; have BK169 := n0_; have HB := n1_; have BK170 := n2_; have GW170 := n3_; have GE170 := n4_; have NB169_170 := n5_; have NB170_169 := n6_; clear n0_ n1_ n2_ n3_ n4_ n5_ n6_; clear hb hbox hg)); go_upto_region 1 with (first | ((with_reducible refine gate_dst (N := 2) rfl ?_); (try (refine gate_guard (by rfl) ?_; dsimp only)); refine box_event ?hg (N := 2) ?hd (cs := #[.slice A0_0 l0_0.length c0_0, .bool a0_1, .int .i64 a0_2, .int .i64 a0_3]) (t := 27) ?hr ?_; (case hd => rfl); (case hg => rfl); (case hr => first | (go_simp; done) | (go_simp; rfl)); intro gb169 hg w4 hbox hb; have n0_ := Aside0.mk (below_step (by repeat (first | (with_reducible first | exact HB.out | apply below_alloc | apply pw_below_drewN | apply below_drew1) | exact HB.out)) hb); have n1_ := Aside0.mk (hbox); have n2_ := Aside0.mk ((by rw [hg]; exact (below_size (by repeat (first | (with_reducible first | exact HB.out | apply below_alloc | apply pw_below_drewN | apply below_drew1) | exact HB.out))) : w.heap.size ≤ gb169)); have n3_ := Aside0.mk ((by rw [hg]; exact (below_size (by repeat (first | (with_reducible first | exact HB.out | apply below_alloc | apply pw_below_drewN | apply below_drew1) | exact HB.out))) : w.heap.size ≤ gb169)); clear HB; have HB := n0_; have BK169 := n1_; have GW169 := n2_; have GE169 := n3_; clear n0_ n1_ n2_ n3_; clear hb hbox hg) | ((with_reducible refine gate_dst (N := 3) rfl ?_); (try (refine gate_guard (by rfl) ?_; dsimp only)); refine box_event ?hg (N := 3) ?hd (cs := #[.slice A1_0 l1_0.length c1_0, .bool a1_1, .int .i64 a1_2, .int .i64 a1_3]) (t := 27) ?hr ?_; (case hd => rfl); (case hg => rfl); (case hr => first | (go_simp; done) | (go_simp; rfl)); intro gb170 hg w5 hbox hb; have n0_ := Aside0.mk (blk_below (g := gb169) (o := .cells #[.slice A0_0 l0_0.length c0_0, .bool a0_1, .int .i64 a0_2, .int .i64 a0_3] 27 (0, 0)) (by (with_reducible repeat (first | refine blk_drewN ?_ _ | refine blk_drew ?_ | refine blk_alloc ?_ _)); exact BK169.out) hb); have n1_ := Aside0.mk (below_step (by repeat (first | (with_reducible first | exact HB.out | apply below_alloc | apply pw_below_drewN | apply below_drew1 | refine below_set ?_ GE169.out) | exact HB.out)) hb); have n2_ := Aside0.mk (hbox); have n3_ := Aside0.mk ((by rw [hg]; exact (below_size (by repeat (first | (with_reducible first | exact HB.out | apply below_alloc | apply pw_below_drewN | apply below_drew1 | refine below_set ?_ GE169.out) | exact HB.out))) : w.heap.size ≤ gb170)); have n4_ := Aside0.mk ((by rw [hg]; exact (below_size (by repeat (first | (with_reducible first | exact HB.out | apply below_alloc | apply pw_below_drewN | apply below_drew1 | refine below_set ?_ GE169.out) | exact HB.out))) : w.heap.size ≤ gb170)); have n5_ := Aside0.mk ((by rw [hg]; exact Nat.ne_of_lt (blk_lt (g := gb169) (o := .cells #[.slice A0_0 l0_0.length c0_0, .bool a0_1, .int .i64 a0_2, .int .i64 a0_3] 27 (0, 0)) (by (with_reducible repeat (first | refine blk_drewN ?_ _ | refine blk_drew ?_ | refine blk_alloc ?_ _)); exact BK169.out)) : gb169 ≠ gb170)); have n6_ := Aside0.mk ((by rw [hg]; exact Nat.ne_of_gt (blk_lt (g := gb169) (o := .cells #[.slice A0_0 l0_0.length c0_0, .bool a0_1, .int .i64 a0_2, .int .i64 a0_3] 27 (0, 0)) (by (with_reducible repeat (first | refine blk_drewN ?_ _ | refine blk_drew ?_ | refine blk_alloc ?_ _)); exact BK169.out)) : gb170 ≠ gb169)); clear BK169; clear HB; have BK169 := n0_; have HB := n1_; have BK170 := n2_; have GW170 := n3_; have GE170 := n4_; have NB169_170 := n5_; have NB170_169 := n6_; clear n0_ n1_ n2_ n3_ n4_ n5_ n6_; clear hb hbox hg)))
  (try simp only [Act.put, List.setIfInBounds_toArray, List.set_cons_zero, List.set_cons_succ])
  go_cut [33] (fun v33 wc => ∃ (kq : Nat) (x33_2 : Bool), v33 = .bool x33_2 ∧ Aside0 (penstockref09_Same.j0 kq x33_2 l0_0 a0_1 a0_2 a0_3 l1_0 a1_1 a1_2 a1_3 = some r) ∧ Aside0 (kq ≤ k) ∧ Aside0 (wc.heap[gb169]? = some (.cells #[(.slice A0_0 l0_0.length c0_0), .bool a0_1, .int .i64 a0_2, .int .i64 a0_3] 27 (0, 0))) ∧ Aside0 (wc.heap[gb170]? = some (.cells #[(.slice A1_0 l1_0.length c1_0), .bool a1_1, .int .i64 a1_2, .int .i64 a1_3] 27 (0, 0))) ∧ Aside0 (Below w.heap.size w wc))
  case first =>
    have H := HC3.out
    clear HC3
    by_cases c6 : (a0_1 != a1_1) = true
    · rw [if_pos c6] at H
      have c6b0 : (a0_1 != a1_1) = true := c6
      (try (have c6b1 : decide (a0_1 = a1_1) = false := by simpa using c6))
      (try (have c6b2 : (a0_1 == a1_1) = false := by simpa using c6))
      (try (have c6b3 : ¬ (a0_1 = a1_1) := by simpa using c6))
      clear c6
      (first | rw [c6b0] | (simp only [i64_w, i32_w]; rw [c6b0]) | skip)
      have H' := Aside0.mk H
      clear H
      have hnb7 := NB169_170.out
      have hnc7 := NB170_169.out
      have hcz8_0 : w5.cell? ⟨gb169, 0, none⟩ = some (.slice A0_0 l0_0.length c0_0) := (blk_cell BK169.out 0).trans rfl
      have hcz8_1 : w5.cell? ⟨gb169, 1, none⟩ = some (.bool a0_1) := (blk_cell BK169.out 1).trans rfl
      have hcz8_2 : w5.cell? ⟨gb169, 2, none⟩ = some (.int .i64 a0_2) := (blk_cell BK169.out 2).trans rfl
      have hcz8_3 : w5.cell? ⟨gb169, 3, none⟩ = some (.int .i64 a0_3) := (blk_cell BK169.out 3).trans rfl
      have hfz8_0 := blk_frozen BK169.out 0
      have hfz8_1 := blk_frozen BK169.out 1
      have hfz8_2 := blk_frozen BK169.out 2
      have hfz8_3 := blk_frozen BK169.out 3
      have hcz9_0 : w5.cell? ⟨gb170, 0, none⟩ = some (.slice A1_0 l1_0.length c1_0) := (blk_cell BK170.out 0).trans rfl
      have hcz9_1 : w5.cell? ⟨gb170, 1, none⟩ = some (.bool a1_1) := (blk_cell BK170.out 1).trans rfl
      have hcz9_2 : w5.cell? ⟨gb170, 2, none⟩ = some (.int .i64 a1_2) := (blk_cell BK170.out 2).trans rfl
      have hcz9_3 : w5.cell? ⟨gb170, 3, none⟩ = some (.int .i64 a1_3) := (blk_cell BK170.out 3).trans rfl
      have hfz9_0 := blk_frozen BK170.out 0
      have hfz9_1 := blk_frozen BK170.out 1
      have hfz9_2 := blk_frozen BK170.out 2
      have hfz9_3 := blk_frozen BK170.out 3
      go_wp2
      repeat (go_quiet (fail); try go_wp2)
      go_meet
      case rel => exact ⟨_, (true), (by first | rfl | (simp; done) | (simp [*]; done)), H', ⟨by first | omega | exact Nat.le_refl _⟩, ⟨by (with_reducible repeat (first | refine blk_drewN ?_ _ | refine blk_drew ?_ | refine blk_alloc ?_ _)); exact BK169.out⟩, ⟨by (with_reducible repeat (first | refine blk_drewN ?_ _ | refine blk_drew ?_ | refine blk_alloc ?_ _)); exact BK170.out⟩, ⟨by repeat (first | (with_reducible first | exact HB.out | apply below_alloc | apply pw_below_drewN | apply below_drew1 | refine below_set ?_ GE169.out | refine below_set ?_ GE170.out) | exact HB.out)⟩⟩
    · rw [if_neg c6] at H
      have c6b0 : (a0_1 != a1_1) = false := by simpa using c6
      (try (have c6b1 : decide (a0_1 = a1_1) = true := by simpa using c6))
      (try (have c6b2 : (a0_1 == a1_1) = true := by simpa using c6))
      clear c6
      (first | rw [c6b0] | (simp only [i64_w, i32_w]; rw [c6b0]) | skip)
      by_cases c10 : a0_2 = a1_2
      · rw [if_pos c10] at H
        have c10b0 : (a0_2 == a1_2) = true := beq_iff_eq.mpr c10
        have c10b1 : (a0_2 != a1_2) = false := bne_eq_false_iff_eq.mpr c10
        clear c10
        by_cases c11 : a0_3 = a1_3
        · rw [if_pos c11] at H
          have c11b0 : (a0_3 == a1_3) = true := beq_iff_eq.mpr c11
          have c11b1 : (a0_3 != a1_3) = false := bne_eq_false_iff_eq.mpr c11
          clear c11
          have H' := Aside0.mk H
          clear H
          have hnb12 := NB169_170.out
          have hnc12 := NB170_169.out
          have hcz13_0 : w5.cell? ⟨gb169, 0, none⟩ = some (.slice A0_0 l0_0.length c0_0) := (blk_cell BK169.out 0).trans rfl
          have hcz13_1 : w5.cell? ⟨gb169, 1, none⟩ = some (.bool a0_1) := (blk_cell BK169.out 1).trans rfl
          have hcz13_2 : w5.cell? ⟨gb169, 2, none⟩ = some (.int .i64 a0_2) := (blk_cell BK169.out 2).trans rfl
          have hcz13_3 : w5.cell? ⟨gb169, 3, none⟩ = some (.int .i64 a0_3) := (blk_cell BK169.out 3).trans rfl
          have hfz13_0 := blk_frozen BK169.out 0
          have hfz13_1 := blk_frozen BK169.out 1
          have hfz13_2 := blk_frozen BK169.out 2
          have hfz13_3 := blk_frozen BK169.out 3
          have hcz14_0 : w5.cell? ⟨gb170, 0, none⟩ = some (.slice A1_0 l1_0.length c1_0) := (blk_cell BK170.out 0).trans rfl
          have hcz14_1 : w5.cell? ⟨gb170, 1, none⟩ = some (.bool a1_1) := (blk_cell BK170.out 1).trans rfl
          have hcz14_2 : w5.cell? ⟨gb170, 2, none⟩ = some (.int .i64 a1_2) := (blk_cell BK170.out 2).trans rfl
          have hcz14_3 : w5.cell? ⟨gb170, 3, none⟩ = some (.int .i64 a1_3) := (blk_cell BK170.out 3).trans rfl
          have hfz14_0 := blk_frozen BK170.out 0
          have hfz14_1 := blk_frozen BK170.out 1
          have hfz14_2 := blk_frozen BK170.out 2
          have hfz14_3 := blk_frozen BK170.out 3
          go_wp2
          repeat (go_quiet (fail); try go_wp2)
          go_meet
          case rel => exact ⟨_, (((l0_0.length : Int) != (l1_0.length : Int))), (by first | rfl | (simp; done) | (simp [*]; done)), H', ⟨by first | omega | exact Nat.le_refl _⟩, ⟨by (with_reducible repeat (first | refine blk_drewN ?_ _ | refine blk_drew ?_ | refine blk_alloc ?_ _)); exact BK169.out⟩, ⟨by (with_reducible repeat (first | refine blk_drewN ?_ _ | refine blk_drew ?_ | refine blk_alloc ?_ _)); exact BK170.out⟩, ⟨by repeat (first | (with_reducible first | exact HB.out | apply below_alloc | apply pw_below_drewN | apply below_drew1 | refine below_set ?_ GE169.out | refine below_set ?_ GE170.out) | exact HB.out)⟩⟩
        · rw [if_neg c11] at H
          have c11b0 : (a0_3 == a1_3) = false := beq_eq_false_iff_ne.mpr c11
          have c11b1 : (a0_3 != a1_3) = true := bne_iff_ne.mpr c11
          have H' := Aside0.mk H
          clear H
          have hnb15 := NB169_170.out
          have hnc15 := NB170_169.out
          have hcz16_0 : w5.cell? ⟨gb169, 0, none⟩ = some (.slice A0_0 l0_0.length c0_0) := (blk_cell BK169.out 0).trans rfl
          have hcz16_1 : w5.cell? ⟨gb169, 1, none⟩ = some (.bool a0_1) := (blk_cell BK169.out 1).trans rfl
          have hcz16_2 : w5.cell? ⟨gb169, 2, none⟩ = some (.int .i64 a0_2) := (blk_cell BK169.out 2).trans rfl
          have hcz16_3 : w5.cell? ⟨gb169, 3, none⟩ = some (.int .i64 a0_3) := (blk_cell BK169.out 3).trans rfl
          have hfz16_0 := blk_frozen BK169.out 0
          have hfz16_1 := blk_frozen BK169.out 1
          have hfz16_2 := blk_frozen BK169.out 2
          have hfz16_3 := blk_frozen BK169.out 3
          have hcz17_0 : w5.cell? ⟨gb170, 0, none⟩ = some (.slice A1_0 l1_0.length c1_0) := (blk_cell BK170.out 0).trans rfl
          have hcz17_1 : w5.cell? ⟨gb170, 1, none⟩ = some (.bool a1_1) := (blk_cell BK170.out 1).trans rfl
          have hcz17_2 : w5.cell? ⟨gb170, 2, none⟩ = some (.int .i64 a1_2) := (blk_cell BK170.out 2).trans rfl
          have hcz17_3 : w5.cell? ⟨gb170, 3, none⟩ = some (.int .i64 a1_3) := (blk_cell BK170.out 3).trans rfl
          have hfz17_0 := blk_frozen BK170.out 0
          have hfz17_1 := blk_frozen BK170.out 1
          have hfz17_2 := blk_frozen BK170.out 2
          have hfz17_3 := blk_frozen BK170.out 3
          go_wp2
          repeat (go_quiet (fail); try go_wp2)
          go_meet
          case rel => exact ⟨_, (true), (by first | rfl | (simp; done) | (simp [*]; done)), H', ⟨by first | omega | exact Nat.le_refl _⟩, ⟨by (with_reducible repeat (first | refine blk_drewN ?_ _ | refine blk_drew ?_ | refine blk_alloc ?_ _)); exact BK169.out⟩, ⟨by (with_reducible repeat (first | refine blk_drewN ?_ _ | refine blk_drew ?_ | refine blk_alloc ?_ _)); exact BK170.out⟩, ⟨by repeat (first | (with_reducible first | exact HB.out | apply below_alloc | apply pw_below_drewN | apply below_drew1 | refine below_set ?_ GE169.out | refine below_set ?_ GE170.out) | exact HB.out)⟩⟩
      · rw [if_neg c10] at H
        have c10b0 : (a0_2 == a1_2) = false := beq_eq_false_iff_ne.mpr c10
        have c10b1 : (a0_2 != a1_2) = true := bne_iff_ne.mpr c10
        have H' := Aside0.mk H
        clear H
        have hnb18 := NB169_170.out
        have hnc18 := NB170_169.out
        have hcz19_0 : w5.cell? ⟨gb169, 0, none⟩ = some (.slice A0_0 l0_0.length c0_0) := (blk_cell BK169.out 0).trans rfl
        have hcz19_1 : w5.cell? ⟨gb169, 1, none⟩ = some (.bool a0_1) := (blk_cell BK169.out 1).trans rfl
        have hcz19_2 : w5.cell? ⟨gb169, 2, none⟩ = some (.int .i64 a0_2) := (blk_cell BK169.out 2).trans rfl
        have hcz19_3 : w5.cell? ⟨gb169, 3, none⟩ = some (.int .i64 a0_3) := (blk_cell BK169.out 3).trans rfl
        have hfz19_0 := blk_frozen BK169.out 0
        have hfz19_1 := blk_frozen BK169.out 1
        have hfz19_2 := blk_frozen BK169.out 2
        have hfz19_3 := blk_frozen BK169.out 3
        have hcz20_0 : w5.cell? ⟨gb170, 0, none⟩ = some (.slice A1_0 l1_0.length c1_0) := (blk_cell BK170.out 0).trans rfl
        have hcz20_1 : w5.cell? ⟨gb170, 1, none⟩ = some (.bool a1_1) := (blk_cell BK170.out 1).trans rfl
        have hcz20_2 : w5.cell? ⟨gb170, 2, none⟩ = some (.int .i64 a1_2) := (blk_cell BK170.out 2).trans rfl
        have hcz20_3 : w5.cell? ⟨gb170, 3, none⟩ = some (.int .i64 a1_3) := (blk_cell BK170.out 3).trans rfl
        have hfz20_0 := blk_frozen BK170.out 0
        have hfz20_1 := blk_frozen BK170.out 1
        have hfz20_2 := blk_frozen BK170.out 2
        have hfz20_3 := blk_frozen BK170.out 3
        go_wp2
        repeat (go_quiet (fail); try go_wp2)
        go_meet
        case rel => exact ⟨_, (true), (by first | rfl | (simp; done) | (simp [*]; done)), H', ⟨by first | omega | exact Nat.le_refl _⟩, ⟨by (with_reducible repeat (first | refine blk_drewN ?_ _ | refine blk_drew ?_ | refine blk_alloc ?_ _)); exact BK169.out⟩, ⟨by (with_reducible repeat (first | refine blk_drewN ?_ _ | refine blk_drew ?_ | refine blk_alloc ?_ _)); exact BK170.out⟩, ⟨by repeat (first | (with_reducible first | exact HB.out | apply below_alloc | apply pw_below_drewN | apply below_drew1 | refine below_set ?_ GE169.out | refine below_set ?_ GE170.out) | exact HB.out)⟩⟩
  case rest =>
    clear HC3
    try clear c1
    try clear p2
    try clear c6
    try clear c6b0
    try clear c6b1
    try clear c6b2
    try clear c7
    try clear c10
    try clear c10b0
    try clear c10b1
    try clear c11
    try clear c11b0
    try clear c11b1
    try clear c12
    try clear c15
    try clear c18
    try clear hcz13_0
    try clear hcz13_1
    try clear hcz13_2
    try clear hcz13_3
    try clear hcz14_0
    try clear hcz14_1
    try clear hcz14_2
    try clear hcz14_3
    try clear hcz16_0
    try clear hcz16_1
    try clear hcz16_2
    try clear hcz16_3
    try clear hcz17_0
    try clear hcz17_1
    try clear hcz17_2
    try clear hcz17_3
    try clear hcz19_0
    try clear hcz19_1
    try clear hcz19_2
    try clear hcz19_3
    try clear hcz20_0
    try clear hcz20_1
    try clear hcz20_2
    try clear hcz20_3
    try clear hcz8_0
    try clear hcz8_1
    try clear hcz8_2
    try clear hcz8_3
    try clear hcz9_0
    try clear hcz9_1
    try clear hcz9_2
    try clear hcz9_3
    try clear hfz13_0
    try clear hfz13_1
    try clear hfz13_2
    try clear hfz13_3
    try clear hfz14_0
    try clear hfz14_1
    try clear hfz14_2
    try clear hfz14_3
    try clear hfz16_0
    try clear hfz16_1
    try clear hfz16_2
    try clear hfz16_3
    try clear hfz17_0
    try clear hfz17_1
    try clear hfz17_2
    try clear hfz17_3
    try clear hfz19_0
    try clear hfz19_1
    try clear hfz19_2
    try clear hfz19_3
    try clear hfz20_0
    try clear hfz20_1
    try clear hfz20_2
    try clear hfz20_3
    try clear hfz8_0
    try clear hfz8_1
    try clear hfz8_2
    try clear hfz8_3
    try clear hfz9_0
    try clear hfz9_1
    try clear hfz9_2
    try clear hfz9_3
    obtain ⟨kq, x33_2, rfl, HA, HJ2, BK169, BK170, HB⟩ := hcut
    cases kq with
    | zero => exact absurd HA.out (by simp [penstockref09_Same.j0])
    | succ kj2 =>
      have H := HA.out
      clear HA
      simp only [penstockref09_Same.j0] at H
      by_cases c21 : x33_2 = true
      · subst c21
        have H1 : (some false) = some r := by rw [if_pos rfl] at H; exact H
        clear H
        have H := H1
        clear H1
        obtain rfl := Option.some.inj H
        go_wp2
        repeat (go_quiet (fail); try go_wp2)
        go_ret
        exact ⟨by first | rfl | (simp [errW_none, errW_some] <;> rfl) | (simp [*, errW_none, errW_some] <;> rfl), by repeat (first | (with_reducible first | exact HB.out | apply below_alloc | apply pw_below_drewN | apply below_drew1 | refine below_set ?_ GE169.out | refine below_set ?_ GE170.out) | exact HB.out)⟩
      · replace c21 := Bool.eq_false_iff.mpr c21
        subst c21
        have H1 : (penstockref09_Same.l0 kj2 (l0_0.length : Int) 0 l0_0 a0_1 a0_2 a0_3 l1_0 a1_1 a1_2 a1_3) = some r := by rw [if_neg (show ¬ (false = true) by decide)] at H; exact H
        clear H
        have H := H1
        clear H1
        have H' := Aside0.mk H
        clear H
        have hnb22 := NB169_170.out
        have hnc22 := NB170_169.out
        have hcz23_0 : wc.cell? ⟨gb169, 0, none⟩ = some (.slice A0_0 l0_0.length c0_0) := (blk_cell BK169.out 0).trans rfl
        have hcz23_1 : wc.cell? ⟨gb169, 1, none⟩ = some (.bool a0_1) := (blk_cell BK169.out 1).trans rfl
        have hcz23_2 : wc.cell? ⟨gb169, 2, none⟩ = some (.int .i64 a0_2) := (blk_cell BK169.out 2).trans rfl
        have hcz23_3 : wc.cell? ⟨gb169, 3, none⟩ = some (.int .i64 a0_3) := (blk_cell BK169.out 3).trans rfl
        have hfz23_0 := blk_frozen BK169.out 0
        have hfz23_1 := blk_frozen BK169.out 1
        have hfz23_2 := blk_frozen BK169.out 2
        have hfz23_3 := blk_frozen BK169.out 3
        go_wp2
        repeat (go_quiet (fail); try go_wp2)
        go_loopg [37] kj2 (fun kq v37 w' => ∃ (x37_2 : Int), v37 = .int .i64 x37_2 ∧ Aside0 (penstockref09_Same.l0 kq (l0_0.length : Int) x37_2 l0_0 a0_1 a0_2 a0_3 l1_0 a1_1 a1_2 a1_3 = some r) ∧ Aside0 (kq ≤ kj2) ∧ Aside0 (w'.heap[gb169]? = some (.cells #[(.slice A0_0 l0_0.length c0_0), .bool a0_1, .int .i64 a0_2, .int .i64 a0_3] 27 (0, 0))) ∧ Aside0 (w'.heap[gb170]? = some (.cells #[(.slice A1_0 l1_0.length c1_0), .bool a1_1, .int .i64 a1_2, .int .i64 a1_3] 27 (0, 0))) ∧ Aside0 (Below w.heap.size w w'))
        case atStart => exact ⟨(0), (by first | rfl | (simp; done) | (simp [*]; done)), H', ⟨Nat.le_refl _⟩, ⟨by (with_reducible repeat (first | refine blk_drewN ?_ _ | refine blk_drew ?_ | refine blk_alloc ?_ _)); exact BK169.out⟩, ⟨by (with_reducible repeat (first | refine blk_drewN ?_ _ | refine blk_drew ?_ | refine blk_alloc ?_ _)); exact BK170.out⟩, ⟨by repeat (first | (with_reducible first | exact HB.out | apply below_alloc | apply pw_below_drewN | apply below_drew1 | refine below_set ?_ GE169.out | refine below_set ?_ GE170.out) | exact HB.out)⟩⟩
        case round =>
          clear H'
          try clear c1
          try clear c2
          try clear p2
          try clear c6
          try clear c6b0
          try clear c6b1
          try clear c6b2
          try clear c7
          try clear c10
          try clear c10b0
          try clear c10b1
          try clear c11
          try clear c11b0
          try clear c11b1
          try clear c12
          try clear c15
          try clear c18
          try clear c21
          try clear c22
          try clear hcz13_0
          try clear hcz13_1
          try clear hcz13_2
          try clear hcz13_3
          try clear hcz14_0
          try clear hcz14_1
          try clear hcz14_2
          try clear hcz14_3
          try clear hcz16_0
          try clear hcz16_1
          try clear hcz16_2
          try clear hcz16_3
          try clear hcz17_0
          try clear hcz17_1
          try clear hcz17_2
          try clear hcz17_3
          try clear hcz19_0
          try clear hcz19_1
          try clear hcz19_2
          try clear hcz19_3
          try clear hcz20_0
          try clear hcz20_1
          try clear hcz20_2
          try clear hcz20_3
          try clear hcz23_0
          try clear hcz23_1
          try clear hcz23_2
          try clear hcz23_3
          try clear hcz8_0
          try clear hcz8_1
          try clear hcz8_2
          try clear hcz8_3
          try clear hcz9_0
          try clear hcz9_1
          try clear hcz9_2
          try clear hcz9_3
          try clear hfz13_0
          try clear hfz13_1
          try clear hfz13_2
          try clear hfz13_3
          try clear hfz14_0
          try clear hfz14_1
          try clear hfz14_2
          try clear hfz14_3
          try clear hfz16_0
          try clear hfz16_1
          try clear hfz16_2
          try clear hfz16_3
          try clear hfz17_0
          try clear hfz17_1
          try clear hfz17_2
          try clear hfz17_3
          try clear hfz19_0
          try clear hfz19_1
          try clear hfz19_2
          try clear hfz19_3
          try clear hfz20_0
          try clear hfz20_1
          try clear hfz20_2
          try clear hfz20_3
          try clear hfz23_0
          try clear hfz23_1
          try clear hfz23_2
          try clear hfz23_3
          try clear hfz8_0
          try clear hfz8_1
          try clear hfz8_2
          try clear hfz8_3
          try clear hfz9_0
          try clear hfz9_1
          try clear hfz9_2
          try clear hfz9_3
          try clear p2
          obtain ⟨x37_2, rfl, HA, HK2, BK169, BK170, HB⟩ := hrel
          cases gk with
          | zero => exact absurd HA.out (by simp [penstockref09_Same.l0])
          | succ k2 =>
            have H := HA.out
            clear HA
            simp only [penstockref09_Same.l0] at H
            by_cases c24 : x37_2 < (l0_0.length : Int)
            · rw [if_pos c24] at H
              have c24b0 : decide (x37_2 < (l0_0.length : Int)) = true := decide_eq_true c24
              clear c24
              by_cases c25 : 0 ≤ x37_2
              · rw [if_pos c25] at H
                have c25b0 : decide (0 ≤ x37_2) = true := decide_eq_true c25
                clear c25
                by_cases c26 : x37_2 < (l0_0.length : Int)
                · rw [if_pos c26] at H
                  have c26b0 : decide (x37_2 < (l0_0.length : Int)) = true := decide_eq_true c26
                  clear c26
                  by_cases c27 : x37_2 < (l1_0.length : Int)
                  · rw [if_pos c27] at H
                    have c27b0 : decide (x37_2 < (l1_0.length : Int)) = true := decide_eq_true c27
                    clear c27
                    by_cases c28 : (!((((rd_T67 l0_0 x37_2).f0).toList) == (((rd_T67 l1_0 x37_2).f0).toList)) || (!((((rd_T67 l0_0 x37_2).f1).toList) == (((rd_T67 l1_0 x37_2).f1).toList)) || (!(((rd_T67 l0_0 x37_2).f2) == ((rd_T67 l1_0 x37_2).f2))))) = true
                    · rw [if_pos c28] at H
                      have c28b0 : (!((((rd_T67 l0_0 x37_2).f0).toList) == (((rd_T67 l1_0 x37_2).f0).toList)) || (!((((rd_T67 l0_0 x37_2).f1).toList) == (((rd_T67 l1_0 x37_2).f1).toList)) || (!(((rd_T67 l0_0 x37_2).f2) == ((rd_T67 l1_0 x37_2).f2))))) = true := c28
                      clear c28
                      obtain rfl := Option.some.inj H
                      have hnb29 := NB169_170.out
                      have hnc29 := NB170_169.out
                      have hcz30_0 : wr.cell? ⟨gb169, 0, none⟩ = some (.slice A0_0 l0_0.length c0_0) := (blk_cell BK169.out 0).trans rfl
                      have hcz30_1 : wr.cell? ⟨gb169, 1, none⟩ = some (.bool a0_1) := (blk_cell BK169.out 1).trans rfl
                      have hcz30_2 : wr.cell? ⟨gb169, 2, none⟩ = some (.int .i64 a0_2) := (blk_cell BK169.out 2).trans rfl
                      have hcz30_3 : wr.cell? ⟨gb169, 3, none⟩ = some (.int .i64 a0_3) := (blk_cell BK169.out 3).trans rfl
                      have hfz30_0 := blk_frozen BK169.out 0
                      have hfz30_1 := blk_frozen BK169.out 1
                      have hfz30_2 := blk_frozen BK169.out 2
                      have hfz30_3 := blk_frozen BK169.out 3
                      have p171 : 0 ≤ (x37_2 : Int) := of_decide_eq_true (by first | (with_reducible assumption) | assumption)
                      have q171 : x37_2 < (l0_0.length : Int) := of_decide_eq_true (by first | (with_reducible assumption) | assumption)
                      obtain ⟨ad171, e171, hx171_0, hx171_1, hx171_2⟩ := at_T67 HR0_0.out x37_2 p171 q171
                      cases e171
                      replace hx171_0 := (HB.out.cell (World.block_lt_of_cell? w _ hx171_0)).trans hx171_0
                      replace hx171_1 := (HB.out.cell (World.block_lt_of_cell? w _ hx171_1)).trans hx171_1
                      replace hx171_2 := (HB.out.cell (World.block_lt_of_cell? w _ hx171_2)).trans hx171_2
                      replace p171 := eq_true p171
                      replace q171 := eq_true q171
                      have hcz31_0 : wr.cell? ⟨gb170, 0, none⟩ = some (.slice A1_0 l1_0.length c1_0) := (blk_cell BK170.out 0).trans rfl
                      have hcz31_1 : wr.cell? ⟨gb170, 1, none⟩ = some (.bool a1_1) := (blk_cell BK170.out 1).trans rfl
                      have hcz31_2 : wr.cell? ⟨gb170, 2, none⟩ = some (.int .i64 a1_2) := (blk_cell BK170.out 2).trans rfl
                      have hcz31_3 : wr.cell? ⟨gb170, 3, none⟩ = some (.int .i64 a1_3) := (blk_cell BK170.out 3).trans rfl
                      have hfz31_0 := blk_frozen BK170.out 0
                      have hfz31_1 := blk_frozen BK170.out 1
                      have hfz31_2 := blk_frozen BK170.out 2
                      have hfz31_3 := blk_frozen BK170.out 3
                      have p172 : 0 ≤ (x37_2 : Int) := of_decide_eq_true (by first | (with_reducible assumption) | assumption)
                      have q172 : x37_2 < (l1_0.length : Int) := of_decide_eq_true (by first | (with_reducible assumption) | assumption)
                      obtain ⟨ad172, e172, hx172_0, hx172_1, hx172_2⟩ := at_T67 HR1_0.out x37_2 p172 q172
                      cases e172
                      replace hx172_0 := (HB.out.cell (World.block_lt_of_cell? w _ hx172_0)).trans hx172_0
                      replace hx172_1 := (HB.out.cell (World.block_lt_of_cell? w _ hx172_1)).trans hx172_1
                      replace hx172_2 := (HB.out.cell (World.block_lt_of_cell? w _ hx172_2)).trans hx172_2
                      replace p172 := eq_true p172
                      replace q172 := eq_true q172
                      go_wp2
                      repeat (go_quiet (fail); try go_wp2)
                      go_ret
                      exact ⟨by first | rfl | (simp [errW_none, errW_some] <;> rfl) | (simp [*, errW_none, errW_some] <;> rfl), by repeat (first | (with_reducible first | exact HB.out | apply below_alloc | apply pw_below_drewN | apply below_drew1 | refine below_set ?_ GE169.out | refine below_set ?_ GE170.out) | exact HB.out)⟩
                    · rw [if_neg c28] at H
                      have c28b0 : (!((((rd_T67 l0_0 x37_2).f0).toList) == (((rd_T67 l1_0 x37_2).f0).toList)) || (!((((rd_T67 l0_0 x37_2).f1).toList) == (((rd_T67 l1_0 x37_2).f1).toList)) || (!(((rd_T67 l0_0 x37_2).f2) == ((rd_T67 l1_0 x37_2).f2))))) = false := by simpa using c28
                      clear c28
                      have H' := Aside0.mk H
                      clear H
                      have hnb32 := NB169_170.out
                      have hnc32 := NB170_169.out
                      have hcz33_0 : wr.cell? ⟨gb169, 0, none⟩ = some (.slice A0_0 l0_0.length c0_0) := (blk_cell BK169.out 0).trans rfl
                      have hcz33_1 : wr.cell? ⟨gb169, 1, none⟩ = some (.bool a0_1) := (blk_cell BK169.out 1).trans rfl
                      have hcz33_2 : wr.cell? ⟨gb169, 2, none⟩ = some (.int .i64 a0_2) := (blk_cell BK169.out 2).trans rfl
                      have hcz33_3 : wr.cell? ⟨gb169, 3, none⟩ = some (.int .i64 a0_3) := (blk_cell BK169.out 3).trans rfl
                      have hfz33_0 := blk_frozen BK169.out 0
                      have hfz33_1 := blk_frozen BK169.out 1
                      have hfz33_2 := blk_frozen BK169.out 2
                      have hfz33_3 := blk_frozen BK169.out 3
                      have p171 : 0 ≤ (x37_2 : Int) := of_decide_eq_true (by first | (with_reducible assumption) | assumption)
                      have q171 : x37_2 < (l0_0.length : Int) := of_decide_eq_true (by first | (with_reducible assumption) | assumption)
                      obtain ⟨ad171, e171, hx171_0, hx171_1, hx171_2⟩ := at_T67 HR0_0.out x37_2 p171 q171
                      cases e171
                      replace hx171_0 := (HB.out.cell (World.block_lt_of_cell? w _ hx171_0)).trans hx171_0
                      replace hx171_1 := (HB.out.cell (World.block_lt_of_cell? w _ hx171_1)).trans hx171_1
                      replace hx171_2 := (HB.out.cell (World.block_lt_of_cell? w _ hx171_2)).trans hx171_2
                      replace p171 := eq_true p171
                      replace q171 := eq_true q171
                      have hcz34_0 : wr.cell? ⟨gb170, 0, none⟩ = some (.slice A1_0 l1_0.length c1_0) := (blk_cell BK170.out 0).trans rfl
                      have hcz34_1 : wr.cell? ⟨gb170, 1, none⟩ = some (.bool a1_1) := (blk_cell BK170.out 1).trans rfl
                      have hcz34_2 : wr.cell? ⟨gb170, 2, none⟩ = some (.int .i64 a1_2) := (blk_cell BK170.out 2).trans rfl
                      have hcz34_3 : wr.cell? ⟨gb170, 3, none⟩ = some (.int .i64 a1_3) := (blk_cell BK170.out 3).trans rfl
                      have hfz34_0 := blk_frozen BK170.out 0
                      have hfz34_1 := blk_frozen BK170.out 1
                      have hfz34_2 := blk_frozen BK170.out 2
                      have hfz34_3 := blk_frozen BK170.out 3
                      have p172 : 0 ≤ (x37_2 : Int) := of_decide_eq_true (by first | (with_reducible assumption) | assumption)
                      have q172 : x37_2 < (l1_0.length : Int) := of_decide_eq_true (by first | (with_reducible assumption) | assumption)
                      obtain ⟨ad172, e172, hx172_0, hx172_1, hx172_2⟩ := at_T67 HR1_0.out x37_2 p172 q172
                      cases e172
                      replace hx172_0 := (HB.out.cell (World.block_lt_of_cell? w _ hx172_0)).trans hx172_0
                      replace hx172_1 := (HB.out.cell (World.block_lt_of_cell? w _ hx172_1)).trans hx172_1
                      replace hx172_2 := (HB.out.cell (World.block_lt_of_cell? w _ hx172_2)).trans hx172_2
                      replace p172 := eq_true p172
                      replace q172 := eq_true q172
                      go_wp2
                      repeat (go_quiet (fail); try go_wp2)
                      go_roundg k2
                      case measure => have := HJ2.out; have := HK2.out; omega
                      case rel => exact ⟨(wrap64 (x37_2 + 1)), (by first | rfl | (simp; done) | (simp [*]; done)), H', ⟨by have := HJ2.out; have := HK2.out; omega⟩, ⟨by (with_reducible repeat (first | refine blk_drewN ?_ _ | refine blk_drew ?_ | refine blk_alloc ?_ _)); exact BK169.out⟩, ⟨by (with_reducible repeat (first | refine blk_drewN ?_ _ | refine blk_drew ?_ | refine blk_alloc ?_ _)); exact BK170.out⟩, ⟨by repeat (first | (with_reducible first | exact HB.out | apply below_alloc | apply pw_below_drewN | apply below_drew1 | refine below_set ?_ GE169.out | refine below_set ?_ GE170.out) | exact HB.out)⟩⟩
                  · rw [if_neg c27] at H
                    exact absurd H (by simp)
                · rw [if_neg c26] at H
                  exact absurd H (by simp)
              · rw [if_neg c25] at H
                exact absurd H (by simp)
            · rw [if_neg c24] at H
              have c24b0 : decide (x37_2 < (l0_0.length : Int)) = false := decide_eq_false c24
              clear c24
              obtain rfl := Option.some.inj H
              go_wp2
              repeat (go_quiet (fail); try go_wp2)
              go_ret
              exact ⟨by first | rfl | (simp [errW_none, errW_some] <;> rfl) | (simp [*, errW_none, errW_some] <;> rfl), by repeat (first | (with_reducible first | exact HB.out | apply below_alloc | apply pw_below_drewN | apply below_drew1 | refine below_set ?_ GE169.out | refine below_set ?_ GE170.out) | exact HB.out)⟩
end Go.Proofs.YtanonhipicoigaaGreatDoor.U
namespace Go.Proofs.YtanonhipicoigaaGreatDoor.U
open Go.RowKit Go.Proofs.YtanonhipicoigaaGreatDoorW.PrintWords Go.Proofs.YtanonhipicoigaaGreatDoorW.PrintLast Go.Proofs.YtanonhipicoigaaGreatDoorW.PrintMore
set_option linter.unusedVariables false
set_option linter.unusedSimpArgs false
/-! ### A crash in plain words -/
theorem right_of_names {l l' : List S67} (h : rightF l = true) (hn : names l' = names l) (ho : ∀ x ∈ l', OkOne x) : rightF l' = true := by
  have h' := (right_iff l).1 h
  refine (right_iff l').2 ⟨by rw [hn]; exact h'.1, ho, ?_⟩
  have : (names l').length = (names l).length := by rw [hn]
  simp only [names, List.length_map] at this
  omega
theorem crash_names (l : List S67) (ks : List Int) : names (crashF l ks) = names l := by
  unfold names crashF
  apply List.ext_getElem?
  intro i
  simp only [List.getElem?_map, List.getElem?_mapIdx]
  cases l[i]? <;> rfl
theorem crash_one {x : S67} (h : OkOne x) (k : Option Int) : OkOne (crash1 x k) ∧ ((crash1 x k).f1.size : Int) = (crash1 x k).f2 := by
  have hr := crashS_range h.2.2.1 h.2.2.2 k
  have h2 := h.2.2.1
  have h1 := h.2.1
  have hs : ((x.f1.extract 0 (crashS x k).toNat).size : Int) = crashS x k := by
    simp only [ByteArray.size_extract]
    omega
  refine ⟨⟨h.1, ?_, ?_, ?_⟩, hs⟩
  · show (x.f1.extract 0 (crashS x k).toNat).size ≤ 262144
    simp only [ByteArray.size_extract]
    omega
  · show 0 ≤ crashS x k
    omega
  · show crashS x k ≤ ((x.f1.extract 0 (crashS x k).toNat).size : Int)
    omega
theorem mem_crash {l : List S67} {ks : List Int} {y : S67} (h : y ∈ crashF l ks) : ∃ (i : Nat) (x : S67), l[i]? = some x ∧ y = crash1 x ks[i]? := by
  obtain ⟨i, hi⟩ := List.getElem?_of_mem h
  simp only [crashF, List.getElem?_mapIdx] at hi
  cases e : l[i]? with
  | none => rw [e] at hi; cases hi
  | some x =>
    rw [e] at hi
    injection hi with hi
    exact ⟨i, x, e, hi.symm⟩
theorem crash_right {l : List S67} (h : rightF l = true) (ks : List Int) : rightF (crashF l ks) = true := by
  refine right_of_names h (crash_names l ks) fun y hy => ?_
  obtain ⟨i, x, hx, rfl⟩ := mem_crash hy
  exact (crash_one (((right_iff l).1 h).2.1 x (List.mem_of_getElem? hx)) _).1
theorem crash_again {x : S67} (h : (x.f1.size : Int) = x.f2) (k : Option Int) : crash1 x k = x := by
  have hS : crashS x k = x.f2 := by
    cases k with
    | none => rfl
    | some v =>
      simp only [crashS, mn, mx]
      split <;> split <;> omega
  unfold crash1
  rw [hS]
  have e : x.f2.toNat = x.f1.size := by omega
  rw [e, ByteArray.extract_zero_size]
theorem same_l0 (l : List S67) (dn : Bool) (fu fa : Int) (hl : l.length ≤ 64) : ∀ (f i : Nat), i ≤ l.length → l.length - i < f → penstockref09_Same.l0 f (l.length : Int) (i : Int) l dn fu fa l dn fu fa = some true
  | 0, i, hi, hf => by omega
  | f + 1, i, hi, hf => by
    rw [penstockref09_Same.l0]
    by_cases h : i < l.length
    · rw [if_pos (by omega), if_pos (by omega), if_pos (by omega), if_pos (by omega)]
      have e : wrap64 ((i : Int) + 1) = ((i + 1 : Nat) : Int) := by
        unfold wrap64
        omega
      rw [e]
      simp only [beq_self_eq_true, Bool.not_true, Bool.or_self, Bool.false_eq_true, if_false]
      exact same_l0 l dn fu fa hl f (i + 1) (by omega) (by omega)
    · rw [if_neg (by omega)]
theorem same_refl (l : List S67) (dn : Bool) (fu fa : Int) (hl : l.length ≤ 64) : penstockref09_Same.f 70 l dn fu fa l dn fu fa = some true := by
  unfold penstockref09_Same.f
  rw [if_neg (by simp), if_pos rfl, if_pos rfl, penstockref09_Same.j0, if_neg (by simp)]
  exact same_l0 l dn fu fa hl 69 0 (by omega) (by omega)
end Go.Proofs.YtanonhipicoigaaGreatDoor.U
namespace Go.Proofs.YtanonhipicoigaaGreatDoor.U
open Go.RowKit Go.Proofs.YtanonhipicoigaaGreatDoorW.PrintWords Go.Proofs.YtanonhipicoigaaGreatDoorW.PrintLast Go.Proofs.YtanonhipicoigaaGreatDoorW.PrintMore Go.Proofs.YtanonhipicoigaaGreatDoor.Sp Go.Proofs.YtanonhipicoigaaGreatDoor.SegP
set_option linter.unusedVariables false
set_option linter.unusedSimpArgs false
/-! ### Places behind a change of the files -/
theorem split_unique {α : Type} {p : α} : ∀ {a a' b b' : List α}, p ∉ a → p ∉ a' → a ++ p :: b = a' ++ p :: b' → a = a' ∧ b = b'
  | [], [], _, _, _, _, h => by simpa using h
  | [], y :: a', _, _, _, h2, h => by
    simp only [List.nil_append, List.cons_append, List.cons.injEq] at h
    exact absurd (by rw [← h.1]; exact List.mem_cons_self ..) h2
  | y :: a, [], _, _, h1, _, h => by
    simp only [List.nil_append, List.cons_append, List.cons.injEq] at h
    exact absurd (by rw [h.1]; exact List.mem_cons_self ..) h1
  | y :: a, z :: a', b, b', h1, h2, h => by
    simp only [List.cons_append, List.cons.injEq] at h
    obtain ⟨rfl, h⟩ := h
    obtain ⟨rfl, rfl⟩ := split_unique (fun g => h1 (List.mem_cons_of_mem _ g)) (fun g => h2 (List.mem_cons_of_mem _ g)) h
    exact ⟨rfl, rfl⟩
theorem places_append (a b : List S67) : placesF (a ++ b) = placesF a ++ placesF b := List.filterMap_append ..
theorem places_mem {l : List S67} {p : Pl} : p ∈ placesF l ↔ p.1 ∈ l ∧ numOf p.1.f0 = some p.2 := by
  constructor
  · intro h
    obtain ⟨f, hf, he⟩ := List.mem_filterMap.1 h
    cases hn : numOf f.f0 with
    | none => rw [hn] at he; cases he
    | some n =>
      rw [hn] at he
      injection he with he
      subst he
      exact ⟨hf, hn⟩
  · rintro ⟨h1, h2⟩
    refine List.mem_filterMap.2 ⟨p.1, h1, ?_⟩
    rw [h2, Option.map_some]
theorem pl_cons (N : ByteArray → Option Nat) {x : S67} {n : Nat} (h : N x.f0 = some n) (l : List S67) : (x :: l).filterMap (fun f => (N f.f0).map fun n => (f, n)) = (x, n) :: l.filterMap (fun f => (N f.f0).map fun n => (f, n)) := by
  simp only [List.filterMap_cons, h, Option.map_some]
theorem places_cons_some {x : S67} {n : Nat} (h : numOf x.f0 = some n) (l : List S67) : placesF (x :: l) = (x, n) :: placesF l := pl_cons numOf h l
theorem cut_at_i {l : List S67} {i : Nat} {x : S67} (h : l[i]? = some x) : l = l.take i ++ x :: l.drop (i + 1) := by
  obtain ⟨hi, e⟩ := List.getElem?_eq_some_iff.1 h
  conv => lhs; rw [← List.take_append_drop i l]
  rw [List.drop_eq_getElem_cons hi, e]
/-- A place stands at its file's place. -/
theorem place_at {l : List S67} (h : rightF l = true) {a b : List Pl} {p : Pl} (hp : placesF l = a ++ p :: b) :
    l[bsOf l p.1.f0]? = some p.1 ∧ isAt l p.1.f0 (bsOf l p.1.f0) = true ∧ numOf p.1.f0 = some p.2 ∧ a = placesF (l.take (bsOf l p.1.f0)) ∧ b = placesF (l.drop (bsOf l p.1.f0 + 1)) := by
  have hm : p ∈ placesF l := by rw [hp]; simp
  obtain ⟨h1, h2⟩ := places_mem.1 hm
  have hb := bs_found h p.1.f0 h1 rfl
  refine ⟨hb, (isAt_iff _ _ _).2 ⟨p.1, hb, rfl⟩, h2, ?_⟩
  have hn : ∀ (c : List Pl) (d : List S67), c = placesF (l.take (bsOf l p.1.f0)) → p ∉ c := by
    rintro c d rfl hc
    obtain ⟨h3, _⟩ := places_mem.1 hc
    obtain ⟨k, hk⟩ := List.getElem?_of_mem h3
    have hkb : k < bsOf l p.1.f0 := by
      have := (List.getElem?_eq_some_iff.1 hk).1
      simp only [List.length_take] at this
      omega
    rw [List.getElem?_take_of_lt hkb] at hk
    exact bl_ne (right_lt h hkb hk hb) rfl
  have hs : placesF l = placesF (l.take (bsOf l p.1.f0)) ++ p :: placesF (l.drop (bsOf l p.1.f0 + 1)) := by
    conv => lhs; rw [cut_at_i hb, places_append, places_cons_some h2]
  refine split_unique ?_ (hn _ [] rfl) (hp.symm.trans hs)
  -- p is not in a: its name comes once
  intro ha
  obtain ⟨i, hi⟩ := List.getElem?_of_mem ha
  have e1 : (placesF l)[i]? = some p := by
    rw [hp, List.getElem?_append_left (List.getElem?_eq_some_iff.1 hi).1, hi]
  have e2 : (placesF l)[a.length]? = some p := by rw [hp]; simp
  have hlt : i < a.length := (List.getElem?_eq_some_iff.1 hi).1
  have hnd : (placesF l).Pairwise (fun p q => BL p.1.f0.toList q.1.f0.toList) := by
    have hp0 : l.Pairwise (fun x y => BL x.f0.toList y.f0.toList) := by
      have h0 := right_names h
      rw [names, List.pairwise_map] at h0
      exact h0
    refine List.Pairwise.filterMap _ ?_ hp0
    intro x y hxy p1 hp1 q1 hq1
    cases hx : numOf x.f0 with
    | none => rw [hx] at hp1; cases hp1
    | some n =>
      rw [hx] at hp1
      cases hp1
      cases hy : numOf y.f0 with
      | none => rw [hy] at hq1; cases hq1
      | some m =>
        rw [hy] at hq1
        cases hq1
        exact hxy
  obtain ⟨j1, e1'⟩ := List.getElem?_eq_some_iff.1 e1
  obtain ⟨j2, e2'⟩ := List.getElem?_eq_some_iff.1 e2
  have := List.pairwise_iff_getElem.1 hnd i a.length j1 j2 hlt
  rw [e1', e2'] at this
  exact bl_ne this rfl
theorem places_remove {l : List S67} (h : rightF l = true) {a b : List Pl} {p : Pl} (hp : placesF l = a ++ p :: b) : placesF (l.take (bsOf l p.1.f0) ++ l.drop (bsOf l p.1.f0 + 1)) = a ++ b := by
  obtain ⟨_, _, _, h1, h2⟩ := place_at h hp
  rw [places_append, ← h1, ← h2]
theorem places_set {l : List S67} (h : rightF l = true) {a b : List Pl} {p : Pl} (hp : placesF l = a ++ p :: b) {y : S67} (hy : y.f0 = p.1.f0) : placesF (l.set (bsOf l p.1.f0) y) = a ++ (y, p.2) :: b := by
  obtain ⟨h0, _, h3, h1, h2⟩ := place_at h hp
  have hi := (List.getElem?_eq_some_iff.1 h0).1
  rw [List.set_eq_take_append_cons_drop, if_pos hi, places_append, places_cons_some (by rw [hy]; exact h3), ← h1, ← h2]
/-- A change that is done. -/
theorem changed_all {l : List S67} {dn : Bool} {fu fa : Int} {s : ByteArray} {wr : Bool} {rf : Int → Bool → Int} {df : Int → List S67} (h : (changedF l dn fu fa s wr rf df).2.2.2.2 = 0) :
    rightF l = true ∧ dn = false ∧ rf (bsOf l s) (isAt l s (bsOf l s)) = 0 ∧ (changedF l dn fu fa s wr rf df).1 = df (bsOf l s) ∧ (changedF l dn fu fa s wr rf df).2.1 = false := by
  unfold changedF at h ⊢
  split at h
  · rename_i hr
    split at h
    · cases h
    · rename_i hd
      split at h
      · rename_i hrf
        split at h
        · cases h
        · rename_i hf
          split at h
          · cases h
          · rename_i hu
            refine ⟨hr, by simpa using hd, hrf, ?_⟩
            rw [if_pos hr, if_neg hd, if_pos hrf, if_neg hf, if_neg hu]
            exact ⟨rfl, by simpa using hd⟩
      · rename_i hrf
        exact absurd h hrf
  · cases h
theorem remove_all {L : Lg} {a b : List Pl} {p : Pl} (hp : placesF L.l = a ++ p :: b) (hz : (removeF L.l L.dn L.fu L.fa p.1.f0).2.2.2.2 = 0) :
    rightF (removeF L.l L.dn L.fu L.fa p.1.f0).1 = true ∧ placesF (removeF L.l L.dn L.fu L.fa p.1.f0).1 = a ++ b ∧ L.dn = false ∧ (removeF L.l L.dn L.fu L.fa p.1.f0).2.1 = false := by
  obtain ⟨h1, h2, h3, h4, h5⟩ := changed_all hz
  have e : (removeF L.l L.dn L.fu L.fa p.1.f0).1 = L.l.take (bsOf L.l p.1.f0) ++ L.l.drop (bsOf L.l p.1.f0 + 1) := by
    rw [removeF, h4]
    simp
  rw [e]
  exact ⟨right_cut h1 _, places_remove h1 hp, h2, h5⟩
theorem cut_all {L : Lg} {a b : List Pl} {p : Pl} {e : Nat} (hp : placesF L.l = a ++ p :: b) (hz : (cutF L.l L.dn L.fu L.fa p.1.f0 (e : Int)).2.2.2.2 = 0) :
    rightF (cutF L.l L.dn L.fu L.fa p.1.f0 (e : Int)).1 = true ∧ placesF (cutF L.l L.dn L.fu L.fa p.1.f0 (e : Int)).1 = a ++ (⟨p.1.f0, p.1.f1.extract 0 e, (e : Int)⟩, p.2) :: b ∧ L.dn = false ∧ (cutF L.l L.dn L.fu L.fa p.1.f0 (e : Int)).2.1 = false := by
  obtain ⟨h1, h2, h3, h4, h5⟩ := changed_all hz
  obtain ⟨g1, g2, _⟩ := place_at h1 hp
  have hg := (good_cut h1 (e : Int) h3).1
  have e1 : (cutF L.l L.dn L.fu L.fa p.1.f0 (e : Int)).1 = L.l.set (bsOf L.l p.1.f0) ⟨p.1.f0, p.1.f1.extract 0 e, (e : Int)⟩ := by
    rw [cutF, h4]
    simp only [Int.toNat_natCast, rd_get g1]
  simp only [Int.toNat_natCast, rd_get g1] at hg
  rw [e1]
  exact ⟨hg, places_set h1 hp rfl, h2, h5⟩
theorem rmAll_ok : ∀ (gs : List Pl) (L R : Lg) (front : List Pl), placesF L.l = front ++ gs.reverse → rightF L.l = true → L.dn = false → L.br = false → rmAll L gs = (R, 0) →
    placesF R.l = front ∧ rightF R.l = true ∧ R.dn = false ∧ R.br = false ∧ R.size = L.size ∧ R.fr = L.fr ∧ R.nx = L.nx
  | [], L, R, front, hp, hr, hd, hb, h => by
    obtain ⟨rfl, _⟩ := Prod.mk.inj h
    exact ⟨by simpa using hp, hr, hd, hb, rfl, rfl, rfl⟩
  | p :: gs, L, R, front, hp, hr, hd, hb, h => by
    rw [rmAll] at h
    by_cases hz : (removeF L.l L.dn L.fu L.fa p.1.f0).2.2.2.2 = 0
    · rw [if_pos hz] at h
      have hp' : placesF L.l = (front ++ gs.reverse) ++ p :: [] := by rw [hp]; simp
      obtain ⟨h1, h2, h3, h4⟩ := remove_all hp' hz
      rw [List.append_nil] at h2
      obtain ⟨k1, k2, k3, k4, k5, k6, k7⟩ := rmAll_ok gs (chg L (removeF L.l L.dn L.fu L.fa p.1.f0)) R front h2 h1 h4 (by show (if _ then _ else _) = _; rw [if_pos hz]; exact hb) h
      exact ⟨k1, k2, k3, k4, k5, k6, k7⟩
    · rw [if_neg hz] at h
      exact absurd (Prod.mk.inj h).2 hz
/-! ### Logs that are whole -/
structure WF (L : Lg) (ds : List Bytes) (n m : Nat) : Prop where
  right : rightF L.l = true
  dn : L.dn = false
  br : L.br = false
  lo : 1 ≤ L.size
  hi : L.size ≤ 262144
  first : firstN (placesF L.l) = n
  ch : chain SU n (placesF L.l) ds m
  top : m ≤ most
  fr : L.fr = (n : Int)
  nx : L.nx = (m : Int)
theorem chain_most (S : Sum) : ∀ (n : Nat) (a : List Pl) (ds : List Bytes) (m : Nat), n ≤ most → chain S n a ds m → m ≤ most
  | n, [], ds, m, hn, h => by obtain ⟨rfl, rfl⟩ := h; exact hn
  | n, p :: r, ds, m, hn, h => by
    obtain ⟨h1, d1, d2, rfl, h3, h4⟩ := h
    obtain ⟨t, g1, g2, g3, g4, g5⟩ := readB_spec S _ (byt p.1.f1) n (Nat.le_refl _)
    rw [h3] at g5
    exact chain_most S _ r d2 m (g5 hn) h4
theorem first_most {l : List S67} : firstN (placesF l) ≤ most := by
  cases h : placesF l with
  | nil => exact (by decide : 1 ≤ most)
  | cons p r =>
    have : p ∈ placesF l := by rw [h]; simp
    exact (numOf_iff.1 (places_mem.1 this).2).1
/-- What Open hands out is whole. -/
theorem open_whole {l : List S67} {dn : Bool} {fu fa size : Int} {R : Lg} {rs : List S62} (h : openF l dn fu fa size = (R, rs, 0)) : ∃ ds n m, WF R ds n m ∧ rs = recR ds n ∧ R.size = size := by
  unfold openF at h
  split at h
  case isFalse => cases h
  rename_i hr
  split at h
  case isTrue => cases h
  rename_i hs
  split at h
  case isTrue => cases h
  rename_i hd
  have hd : dn = false := by simpa using hd
  subst hd
  obtain ⟨n, hn⟩ : ∃ n, n = firstN (placesF l) := ⟨_, rfl⟩
  obtain ⟨F, hF⟩ : ∃ F, F = findF l := ⟨_, rfl⟩
  rw [← hn, ← hF] at h
  obtain ⟨h1, h2, h3⟩ : (openDo ⟨l, false, fu, fa, size, 0, 0, false⟩ F n).1 = R ∧ (if (openDo ⟨l, false, fu, fa, size, 0, 0, false⟩ F n).2 = 0 then recR F.recs n else []) = rs ∧ (openDo ⟨l, false, fu, fa, size, 0, 0, false⟩ F n).2 = 0 := by
    simpa only [Prod.mk.injEq] using h
  rw [if_pos h3] at h2
  have hg : F = goF SU (placesF l) n := by rw [hF, findF, hn]
  have hnm : n ≤ most := by rw [hn]; exact first_most
  obtain ⟨kept, ds, m, hc, hh⟩ := goF_spec SU (placesF l) n
  rw [← hg] at hh
  unfold openDo at h1 h3
  split at h3
  case isFalse hz => exact absurd h3 hz
  rename_i hz
  rw [if_pos hz] at h1
  split at h3
  case isFalse hz2 => exact absurd h3 hz2
  rename_i hz2
  rw [if_pos hz2] at h1
  obtain ⟨T, hT⟩ : ∃ T, rmAll ⟨l, false, fu, fa, size, 0, 0, false⟩ F.gone.reverse = (T, 0) := ⟨_, Prod.ext rfl hz⟩
  rw [hT] at h1 hz2
  rcases hh with ⟨a1, a2, a3, a4, a5⟩ | ⟨p, e, dt, a1, a2, a3, a4, a5, a6, a7⟩
  · rw [a1, cutTorn] at h1
    obtain ⟨k1, k2, k3, k4, k5, k6, k7⟩ := rmAll_ok F.gone.reverse _ T kept (by rw [List.reverse_reverse]; exact a2) hr rfl rfl hT
    have k5' : T.size = size := k5
    subst h1
    have hf : firstN kept = n := by
      cases kept with
      | nil =>
        obtain ⟨_, rfl⟩ := hc
        cases hps : placesF l with
        | nil => rw [hn, hps]
        | cons p r =>
          rw [hps] at a2
          have := a5 p r a2.symm
          exact absurd (by rw [hn, hps]; rfl) this
      | cons p r => rw [hn, a2]; rfl
    refine ⟨ds, n, m, ⟨k2, k3, k4, by show 1 ≤ T.size; rw [k5']; omega, by show T.size ≤ 262144; rw [k5']; omega, by show firstN (placesF T.l) = n; rw [k1]; exact hf, by show chain SU n (placesF T.l) ds m; rw [k1]; exact hc, chain_most SU n kept ds m hnm hc, rfl, by rw [a4]⟩, by rw [← h2, a3], k5⟩
  · have hp2 : placesF l = (kept ++ [p]) ++ F.gone := by rw [a2]; simp
    obtain ⟨k1, k2, k3, k4, k5, k6, k7⟩ := rmAll_ok F.gone.reverse _ T (kept ++ [p]) (by rw [List.reverse_reverse]; exact hp2) hr rfl rfl hT
    have k5' : T.size = size := k5
    rw [a1, cutTorn] at h1 hz2
    simp only at h1 hz2
    have k1' : placesF T.l = kept ++ p :: [] := k1
    obtain ⟨c1, c2, c3, c4⟩ := cut_all (L := T) (e := e) k1' hz2
    have hmm : m ≤ most := chain_most SU n kept ds m hnm hc
    have hrc := read_cut SU a4 hmm
    have hc2 : chain SU n (placesF (cutF T.l T.dn T.fu T.fa p.1.f0 (e : Int)).1) (ds ++ dt) (m + dt.length) := by
      rw [c2]
      refine chain_append SU n kept _ ds dt m _ hc ⟨a3, dt, [], by simp, ?_, rfl, rfl⟩
      exact hrc.2
    have hf : firstN (placesF (cutF T.l T.dn T.fu T.fa p.1.f0 (e : Int)).1) = n := by
      rw [c2]
      cases kept with
      | nil =>
        obtain ⟨_, rfl⟩ := hc
        exact a3
      | cons q r => rw [hn, a2]; rfl
    subst h1
    refine ⟨ds ++ dt, n, m + dt.length, ⟨c1, c4, ?_, by show 1 ≤ T.size; rw [k5']; omega, by show T.size ≤ 262144; rw [k5']; omega, hf, hc2, chain_most SU n _ _ _ hnm hc2, rfl, by rw [a7]⟩, by rw [← h2, a6], k5⟩
    show (if _ then _ else _) = _
    rw [if_pos hz2]
    exact k4
/-- What is whole is opened as it is. -/
theorem WF.find {L : Lg} {ds : List Bytes} {n m : Nat} (h : WF L ds n m) : findF L.l = ⟨ds, m, none, []⟩ := by
  have := goF_chain SU n (placesF L.l) [] ds m h.ch
  rw [List.append_nil] at this
  rw [findF, h.first, this]
  simp [goF]
theorem WF.opens {L : Lg} {ds : List Bytes} {n m : Nat} (h : WF L ds n m) : openF L.l L.dn L.fu L.fa L.size = (L, recR ds n, 0) := by
  have hlo := h.lo
  have hhi := h.hi
  rw [openF, if_pos h.right, if_neg (by omega), h.dn, if_neg (by simp), h.find, h.first]
  obtain ⟨l, dn, fu, fa, size, fr, nx, br⟩ := L
  have h1 := h.dn
  have h2 := h.br
  have h3 := h.fr
  have h4 := h.nx
  simp only at h1 h2 h3 h4
  subst h1 h2 h3 h4
  simp [openDo, rmAll, cutTorn]
theorem WF.okL {L : Lg} {ds : List Bytes} {n m : Nat} (h : WF L ds n m) : okL L := by
  have h1 := chain_next SU n _ ds m h.ch
  have h2 := h.top
  unfold most at h2
  exact ⟨h.right, h.lo, h.hi, by rw [h.fr, h.nx]; omega, by rw [h.nx]; omega⟩
theorem WF.records {L : Lg} {ds : List Bytes} {n m : Nat} (h : WF L ds n m) : recordsL L = (recR ds n, 0) := by
  rw [recordsL, if_pos h.okL, h.br, if_neg (by simp), h.dn, if_neg (by simp), h.find, h.first]
theorem recR_get : ∀ (ds : List Bytes) (n i : Nat) (x : S62), (recR ds n)[i]? = some x → x.f0 = ((n + i : Nat) : Int)
  | [], n, i, x, h => by simp [recR] at h
  | d :: ds, n, 0, x, h => by
    simp only [recR, List.getElem?_cons_zero, Option.some.injEq] at h
    subst h
    rfl
  | d :: ds, n, i + 1, x, h => by
    simp only [recR, List.getElem?_cons_succ] at h
    have := recR_get ds (n + 1) i x h
    rw [this]
    omega
end Go.Proofs.YtanonhipicoigaaGreatDoor.U
namespace Go.Proofs.YtanonhipicoigaaGreatDoor.U
open Go.RowKit Go.Proofs.YtanonhipicoigaaGreatDoorW.PrintWords Go.Proofs.YtanonhipicoigaaGreatDoorW.PrintLast Go.Proofs.YtanonhipicoigaaGreatDoorW.PrintMore Go.Proofs.YtanonhipicoigaaGreatDoor.Sp Go.Proofs.YtanonhipicoigaaGreatDoor.SegP
set_option linter.unusedVariables false
set_option linter.unusedSimpArgs false
/-! ### What is appended -/
theorem bl_is : ∀ (a b : List UInt8), bl a b = Op.bytesLess a b
  | [], [] => rfl
  | _ :: _, [] => rfl
  | [], _ :: _ => rfl
  | x :: r, y :: s => by rw [bl, Op.bytesLess, bl_is r s]
theorem nameB_list (n : Nat) : (nameB n).toList = hexN 16 n := by rw [ByteArray.toList_eq]; exact byt_mk _
theorem numOf_nameB {n : Nat} (h : n ≤ most) : numOf (nameB n) = some n := numOf_iff.2 ⟨h, (byt_mk _).symm⟩
theorem name_of {s : ByteArray} {n : Nat} (h : numOf s = some n) : s = nameB n := byt_inj ((numOf_iff.1 h).2.symm.trans (byt_mk _).symm)
theorem nameB_lt {a b : Nat} (hb : b ≤ most) (h : a < b) : BL (nameB a).toList (nameB b).toList := by
  have h16 : b < 16 ^ 16 := Nat.lt_of_le_of_lt hb (by decide)
  have := hexN_lt 16 a b h16 h
  rw [bl_is] at this
  rw [nameB_list, nameB_list]
  exact this
theorem bl_irr (a : List UInt8) : ¬ BL a a := fun h => bl_ne h rfl
theorem chain_le (S : Sum) : ∀ (n : Nat) (a : List Pl) (ds : List Bytes) (m : Nat), chain S n a ds m → n ≤ m ∧ ∀ p ∈ a, p.2 ≤ m
  | n, [], ds, m, h => by obtain ⟨rfl, rfl⟩ := h; exact ⟨Nat.le_refl _, by simp⟩
  | n, p :: r, ds, m, h => by
    obtain ⟨h1, d1, d2, rfl, h3, h4⟩ := h
    obtain ⟨g1, g2⟩ := chain_le S _ r d2 m h4
    refine ⟨by omega, fun q hq => ?_⟩
    rcases List.mem_cons.1 hq with rfl | hq
    · omega
    · exact g2 q hq
theorem chain_split (S : Sum) : ∀ (n : Nat) (a b : List Pl) (ds : List Bytes) (m : Nat), chain S n (a ++ b) ds m → ∃ d1 d2 k, chain S n a d1 k ∧ chain S k b d2 m ∧ ds = d1 ++ d2
  | n, [], b, ds, m, h => ⟨[], ds, n, ⟨rfl, rfl⟩, h, rfl⟩
  | n, p :: a, b, ds, m, h => by
    obtain ⟨h1, d1, d2, rfl, h3, h4⟩ := h
    obtain ⟨e1, e2, k, k1, k2, rfl⟩ := chain_split S _ a b d2 m h4
    exact ⟨d1 ++ e1, e2, k, ⟨h1, d1, e1, rfl, h3, k1⟩, k2, by simp⟩
theorem whole_bytes {s : ByteArray} {k : Nat} {d1 : List Bytes} (h : readB SU (byt s) k = (d1, s.size)) : byt s = framesL SU k d1 ∧ ∀ d ∈ d1, d.length ≤ maxB := by
  obtain ⟨r, h1, h2, h3, _⟩ := readB_spec SU _ (byt s) k (Nat.le_refl _)
  rw [h] at h1 h2 h3
  simp only at h1 h2 h3
  have h4 := congrArg List.length h1
  rw [byt_length, List.length_append, ← h2] at h4
  have : r = [] := List.length_eq_zero_iff.1 (by omega)
  subst this
  exact ⟨by simpa using h1, h3⟩
theorem read_more {s t : ByteArray} {k m : Nat} {d1 : List Bytes} {d : Bytes} (h : readB SU (byt s) k = (d1, s.size)) (hm : m = k + d1.length) (ht : byt t = frame SU m d) (hd : d.length ≤ maxB) (hlt : m < most) : readB SU (byt (s ++ t)) k = (d1 ++ [d], (s ++ t).size) := by
  obtain ⟨h1, h2⟩ := whole_bytes h
  have e : byt (s ++ t) = framesL SU k (d1 ++ [d]) := by
    rw [byt_append, framesL_append, h1, ht, hm]
    simp [framesL]
  have hr := readB_frames_nil SU (ds := d1 ++ [d]) (n := k) (fun x hx => by
    rcases List.mem_append.1 hx with hx | hx
    · exact h2 x hx
    · rw [List.mem_singleton.1 hx]; exact hd) (by rw [List.length_append, List.length_singleton]; omega)
  rw [e, hr, ← e, byt_length]
theorem append_all {L : Lg} {a b : List Pl} {p : Pl} {s : ByteArray} (hp : placesF L.l = a ++ p :: b) (hz : (appendF L.l L.dn L.fu L.fa p.1.f0 s).2.2.2.2 = 0) :
    rightF (appendF L.l L.dn L.fu L.fa p.1.f0 s).1 = true ∧ placesF (appendF L.l L.dn L.fu L.fa p.1.f0 s).1 = a ++ (⟨p.1.f0, p.1.f1 ++ s, p.1.f2⟩, p.2) :: b ∧ (appendF L.l L.dn L.fu L.fa p.1.f0 s).2.1 = false ∧ (appendF L.l L.dn L.fu L.fa p.1.f0 s).1.length = L.l.length := by
  obtain ⟨h1, h2, h3, h4, h5⟩ := changed_all hz
  obtain ⟨g1, g2, _⟩ := place_at h1 hp
  have hg := (good_append h1 s h3).1
  have e1 : (appendF L.l L.dn L.fu L.fa p.1.f0 s).1 = L.l.set (bsOf L.l p.1.f0) ⟨p.1.f0, p.1.f1 ++ s, p.1.f2⟩ := by
    rw [appendF, h4]
    simp only [Int.toNat_natCast, rd_get g1]
  simp only [Int.toNat_natCast, rd_get g1] at hg
  rw [e1]
  exact ⟨hg, places_set h1 hp rfl, h5, List.length_set⟩
theorem sync_all {L : Lg} {a b : List Pl} {p : Pl} (hp : placesF L.l = a ++ p :: b) (hz : (syncF L.l L.dn L.fu L.fa p.1.f0).2.2.2.2 = 0) :
    rightF (syncF L.l L.dn L.fu L.fa p.1.f0).1 = true ∧ placesF (syncF L.l L.dn L.fu L.fa p.1.f0).1 = a ++ (⟨p.1.f0, p.1.f1, (p.1.f1.size : Int)⟩, p.2) :: b ∧ (syncF L.l L.dn L.fu L.fa p.1.f0).2.1 = false ∧ (syncF L.l L.dn L.fu L.fa p.1.f0).1.length = L.l.length := by
  obtain ⟨h1, h2, h3, h4, h5⟩ := changed_all hz
  obtain ⟨g1, g2, _⟩ := place_at h1 hp
  have hg := (good_sync h1 g2).1
  have e1 : (syncF L.l L.dn L.fu L.fa p.1.f0).1 = L.l.set (bsOf L.l p.1.f0) ⟨p.1.f0, p.1.f1, (p.1.f1.size : Int)⟩ := by
    rw [syncF, h4]
    simp only [Int.toNat_natCast, rd_get g1]
  simp only [Int.toNat_natCast, rd_get g1] at hg
  rw [e1]
  exact ⟨hg, places_set h1 hp rfl, h5, List.length_set⟩
/-- A new file of the next number stands behind all others. -/
theorem places_new {l : List S67} (h : rightF l = true) {m : Nat} (hm : m ≤ most) (hle : ∀ p ∈ placesF l, p.2 ≤ m) (hi : isAt l (nameB m) (bsOf l (nameB m)) = false) :
    placesF (l.take (bsOf l (nameB m)) ++ [(⟨nameB m, ⟨#[]⟩, 0⟩ : S67)] ++ l.drop (bsOf l (nameB m))) = placesF l ++ [((⟨nameB m, ⟨#[]⟩, 0⟩ : S67), m)] := by
  have hd : placesF (l.drop (bsOf l (nameB m))) = [] := by
    rw [List.eq_nil_iff_forall_not_mem]
    intro p hp
    obtain ⟨h1, h2⟩ := places_mem.1 hp
    have hin : p ∈ placesF l := places_mem.2 ⟨List.mem_of_mem_drop h1, h2⟩
    have hk := hle p hin
    obtain ⟨k, hk2⟩ := List.getElem?_of_mem h1
    rw [List.getElem?_drop] at hk2
    have hno := bs_hi h (nameB m) (by omega : bsOf l (nameB m) ≤ bsOf l (nameB m) + k) hk2
    have hnm := name_of h2
    rcases Nat.lt_or_ge p.2 m with g | g
    · exact hno (by rw [hnm]; exact nameB_lt hm g)
    · have e : p.2 = m := by omega
      have hx : p.1.f0.toList = (nameB m).toList := by rw [hnm, e]
      have hb := bs_found h (nameB m) (List.mem_of_mem_drop h1) hx
      rw [(isAt_iff _ _ _).2 ⟨p.1, hb, hx⟩] at hi
      cases hi
  have ht : placesF (l.take (bsOf l (nameB m))) = placesF l := by
    conv => rhs; rw [← List.take_append_drop (bsOf l (nameB m)) l, places_append, hd, List.append_nil]
  have e0 : placesF ([] : List S67) = [] := List.filterMap_nil
  have hcs : placesF [(⟨nameB m, ⟨#[]⟩, 0⟩ : S67)] = [((⟨nameB m, ⟨#[]⟩, 0⟩ : S67), m)] := (places_cons_some (x := ⟨nameB m, ⟨#[]⟩, 0⟩) (n := m) (numOf_nameB hm) []).trans (by rw [e0])
  rw [places_append, hd, List.append_nil, places_append, ht, hcs]
theorem read_nothing (k : Nat) : readB SU (byt (⟨#[]⟩ : ByteArray)) k = ([], 0) := rfl
/-- A file is made: the log stays whole. -/
theorem stepC_ok {L R : Lg} {ds : List Bytes} {n m k : Nat} (h : WF L ds n m) (hs : stepC L k = (R, 0)) : WF R ds n m ∧ R.size = L.size ∧ R.l.length ≤ L.l.length + 1 ∧ ∃ a p, placesF R.l = a ++ [p] ∧ (p.1.f1.size + k ≤ 262144 ∨ p.1.f1.size = 0) := by
  unfold stepC at hs
  split at hs
  · rename_i hf
    obtain ⟨hs1, hz⟩ := Prod.mk.inj hs
    obtain ⟨h1, h2, h3, h4, h5⟩ := changed_all hz
    have hnx : L.nx.toNat = m := by rw [h.nx]; exact Int.toNat_natCast m
    rw [hnx] at hs1 h3 h4 h5 hz
    have hat : isAt L.l (nameB m) (bsOf L.l (nameB m)) = false := by
      cases hh : isAt L.l (nameB m) (bsOf L.l (nameB m)) with
      | false => rfl
      | true =>
        rw [hh] at h3
        unfold rfC at h3
        split at h3
        · cases h3
        · simp at h3
    have hle := (chain_le SU n _ ds m h.ch).2
    have e1 : (createF L.l L.dn L.fu L.fa (nameB m)).1 = L.l.take (bsOf L.l (nameB m)) ++ [(⟨nameB m, ⟨#[]⟩, 0⟩ : S67)] ++ L.l.drop (bsOf L.l (nameB m)) := by
      rw [createF, h4]
      simp
    have hpl : placesF R.l = placesF L.l ++ [((⟨nameB m, ⟨#[]⟩, 0⟩ : S67), m)] := by
      rw [← hs1]
      show placesF (createF L.l L.dn L.fu L.fa (nameB m)).1 = _
      rw [e1]
      exact places_new h.right h.top hle hat
    have hch : chain SU n (placesF R.l) ds m := by
      rw [hpl, ← List.append_nil ds]
      exact chain_append SU n _ _ ds [] m m h.ch ⟨rfl, [], [], rfl, read_nothing m, rfl, rfl⟩
    have hfst : firstN (placesF R.l) = n := by
      rw [hpl]
      have hfn := h.first
      cases hps : placesF L.l with
      | nil =>
        have hc := h.ch
        rw [hps] at hc
        obtain ⟨_, rfl⟩ := hc
        rfl
      | cons p r =>
        rw [hps] at hfn
        exact hfn
    refine ⟨⟨?_, ?_, ?_, ?_, ?_, hfst, hch, h.top, ?_, ?_⟩, ?_, ?_, _, _, hpl, .inr rfl⟩
    · rw [← hs1]
      show rightF (createF L.l L.dn L.fu L.fa (nameB m)).1 = true
      rw [e1]
      exact (good_create h.right h3).1
    · rw [← hs1]; exact h5
    · rw [← hs1]
      show (if _ then _ else _) = _
      rw [if_pos hz]
      exact h.br
    · rw [← hs1]; exact h.lo
    · rw [← hs1]; exact h.hi
    · rw [← hs1]; exact h.fr
    · rw [← hs1]; exact h.nx
    · rw [← hs1]; rfl
    · rw [← hs1]
      show (createF L.l L.dn L.fu L.fa (nameB m)).1.length ≤ _
      rw [e1]
      simp only [List.length_append, List.length_take, List.length_drop, List.length_singleton]
      have := bsOf_le L.l (nameB m)
      omega
  · rename_i hf
    obtain ⟨rfl, _⟩ := Prod.mk.inj hs
    refine ⟨h, rfl, Nat.le_succ _, ?_⟩
    unfold isFull at hf
    cases hl : lastPl L.l with
    | none => rw [hl] at hf; exact absurd trivial hf
    | some p =>
      rw [hl] at hf
      simp only at hf
      have hl' : (placesF L.l).getLast? = some p := hl
      obtain ⟨a, ha⟩ := List.getLast?_eq_some_iff.1 hl'
      exact ⟨a, p, ha, .inl (by omega)⟩
theorem lastNm_of {l : List S67} {a : List Pl} {p : Pl} (h : placesF l = a ++ [p]) : lastNm l = p.1.f0 := by
  rw [lastNm, lastPl, h, List.getLast?_append]
  rfl
/-- A record is put behind. -/
theorem putDo_ok {L R : Lg} {ds : List Bytes} {n m : Nat} {a : List Pl} {p : Pl} {s d : ByteArray} (h : WF L ds n m) (hp : placesF L.l = a ++ [p]) (hs : byt s = frame SU m (byt d)) (hd : d.size ≤ 65536) (hm : m < most) (hR : putDo L s = (R, 0)) :
    WF R (ds ++ [byt d]) n (m + 1) ∧ R.size = L.size ∧ R.l.length = L.l.length ∧ ∃ f, placesF R.l = a ++ [(f, p.2)] ∧ f.f0 = p.1.f0 ∧ f.f1 = p.1.f1 ++ s ∧ f.f2 = (f.f1.size : Int) := by
  unfold putDo at hR
  rw [lastNm_of hp] at hR
  split at hR
  case isFalse hz => exact absurd (Prod.mk.inj hR).2 (by exact fun e => hz (by rw [hR]))
  rename_i hz
  split at hR
  case isFalse hz2 => exact absurd (Prod.mk.inj hR).2 (by exact fun e => hz2 (by rw [hR]))
  rename_i hz2
  obtain ⟨hR, _⟩ := Prod.mk.inj hR
  have hp' : placesF L.l = a ++ p :: [] := hp
  obtain ⟨k1, k2, k3, k4⟩ := append_all (L := L) hp' hz
  have hp2 : placesF (stepA L p.1.f0 s).1.l = a ++ ((⟨p.1.f0, p.1.f1 ++ s, p.1.f2⟩ : S67), p.2) :: [] := k2
  obtain ⟨j1, j2, j3, j4⟩ := sync_all (L := (stepA L p.1.f0 s).1) hp2 hz2
  obtain ⟨d1, d2, k, c1, c2, c3⟩ := chain_split SU n a [p] ds m (by rw [← hp]; exact h.ch)
  obtain ⟨c4, e1, e2, rfl, c5, c6, c7⟩ := c2
  subst c6
  have hrm := read_more (t := s) (d := byt d) c5 c7 hs (by rw [byt_length]; exact hd) hm
  have hpl : placesF R.l = a ++ [((⟨p.1.f0, p.1.f1 ++ s, ((p.1.f1 ++ s).size : Int)⟩ : S67), p.2)] := by
    rw [← hR]
    exact j2
  have hch : chain SU n (placesF R.l) (ds ++ [byt d]) (m + 1) := by
    rw [hpl, c3, List.append_nil, List.append_assoc]
    refine chain_append SU n a _ d1 (e1 ++ [byt d]) k (m + 1) c1 ⟨c4, e1 ++ [byt d], [], by simp, hrm, rfl, ?_⟩
    rw [List.length_append, List.length_singleton]
    omega
  have hfst : firstN (placesF R.l) = n := by
    rw [hpl]
    have hfn := h.first
    rw [hp] at hfn
    cases a with
    | nil => exact hfn
    | cons q r => exact hfn
  refine ⟨⟨?_, ?_, ?_, ?_, ?_, hfst, hch, by omega, ?_, ?_⟩, ?_, ?_, _, hpl, rfl, rfl, rfl⟩
  · rw [← hR]; exact j1
  · rw [← hR]; exact j3
  · rw [← hR]
    exact (if_pos hz2).trans ((if_pos hz).trans h.br)
  · rw [← hR]; exact h.lo
  · rw [← hR]; exact h.hi
  · rw [← hR]; exact h.fr
  · rw [← hR]
    show L.nx + 1 = _
    rw [h.nx]
    rfl
  · rw [← hR]; rfl
  · rw [← hR]
    exact j4.trans k4
theorem append_ok {L R : Lg} {ds : List Bytes} {n m : Nat} {d : ByteArray} (h : WF L ds n m) (hR : appendL L d = (R, 0)) : WF R (ds ++ [byt d]) n (m + 1) ∧ R.size = L.size ∧ R.l.length ≤ L.l.length + 1 ∧ d.size ≤ 65536 ∧ m < most := by
  rw [appendL, if_pos h.okL, appendDo, h.br, if_neg (by simp)] at hR
  split at hR
  · cases hR
  rename_i hd
  split at hR
  · cases hR
  rename_i hm
  have hm2 : m < most := by
    rw [h.nx] at hm
    unfold most
    omega
  split at hR
  case isFalse hz => exact absurd (by rw [hR]) hz
  rename_i hz
  obtain ⟨L1, hL1⟩ : ∃ L1, stepC L (frameF L.nx d).size = (L1, 0) := ⟨_, Prod.ext rfl hz⟩
  rw [hL1] at hR
  obtain ⟨w1, w2, w3, a, p, w4, w5⟩ := stepC_ok h hL1
  have hs : byt (frameF L.nx d) = frame SU m (byt d) := by rw [h.nx]; exact frame_bytes m d
  obtain ⟨v1, v2, v3, _⟩ := putDo_ok w1 w4 hs (by omega) hm2 hR
  exact ⟨v1, by rw [v2, w2], by omega, by omega, hm2⟩
end Go.Proofs.YtanonhipicoigaaGreatDoor.U
namespace Go.Proofs.YtanonhipicoigaaGreatDoor.U
open Go.RowKit Go.Proofs.YtanonhipicoigaaGreatDoorW.PrintWords Go.Proofs.YtanonhipicoigaaGreatDoorW.PrintLast Go.Proofs.YtanonhipicoigaaGreatDoorW.PrintMore Go.Proofs.YtanonhipicoigaaGreatDoor.Sp Go.Proofs.YtanonhipicoigaaGreatDoor.SegP
set_option linter.unusedVariables false
set_option linter.unusedSimpArgs false
/-! ### On a disk that never fails an append is done -/
theorem nameB_size (n : Nat) : (nameB n).size = 16 := by rw [← byt_length, nameB, byt_mk, hexN_length]
theorem last_of {l : List S67} (h : rightF l = true) {n m : Nat} {ds : List Bytes} (hc : chain SU n (placesF l) ds m) {p : Pl} (hp : p ∈ placesF l) (hm : p.2 = m) : ∃ a, placesF l = a ++ [p] ∧ p.1.f1.size = 0 := by
  obtain ⟨a, b, hab⟩ := List.append_of_mem hp
  rw [hab] at hc
  obtain ⟨d1, d2, k, c1, c2, c3⟩ := chain_split SU n a (p :: b) ds m hc
  obtain ⟨c4, e1, e2, rfl, c5, c6⟩ := c2
  have hle := (chain_le SU _ b e2 m c6).1
  have he1 : e1 = [] := List.length_eq_zero_iff.1 (by omega)
  subst he1
  have hsz : p.1.f1.size = 0 := by
    have := (whole_bytes c5).1
    have h2 := congrArg List.length this
    rw [byt_length] at h2
    simpa [framesL] using h2
  cases b with
  | nil => exact ⟨a, hab, hsz⟩
  | cons q r =>
    exfalso
    obtain ⟨c7, _⟩ := c6
    have hq : q.2 = p.2 := by
      rw [c7, c4]
      rfl
    obtain ⟨g1, g2, g3, g4, g5⟩ := place_at h hab
    have hqm : q ∈ placesF (l.drop (bsOf l p.1.f0 + 1)) := by rw [← g5]; simp
    obtain ⟨q1, q2⟩ := places_mem.1 hqm
    obtain ⟨j, hj⟩ := List.getElem?_of_mem q1
    rw [List.getElem?_drop] at hj
    have hlt := right_lt h (by omega : bsOf l p.1.f0 < bsOf l p.1.f0 + 1 + j) g1 hj
    rw [name_of g3, name_of q2, hq] at hlt
    exact bl_irr _ hlt
theorem stepC_done {L : Lg} {ds : List Bytes} {n m k : Nat} (h : WF L ds n m) (hu : L.fu = -1) (ha : L.fa = -1) (hk : k ≤ 65552) (hl : L.l.length < 64) : (stepC L k).2 = 0 ∧ (stepC L k).1.fu = -1 ∧ (stepC L k).1.fa = -1 := by
  unfold stepC
  split
  · rename_i hf
    have hnx : L.nx.toNat = m := by rw [h.nx]; exact Int.toNat_natCast m
    rw [hnx]
    have hat : isAt L.l (nameB m) (bsOf L.l (nameB m)) = false := by
      cases hh : isAt L.l (nameB m) (bsOf L.l (nameB m)) with
      | false => rfl
      | true =>
        exfalso
        obtain ⟨x, hx, hxe⟩ := (isAt_iff _ _ _).1 hh
        have hxn : x.f0 = nameB m := byt_inj (by
          rw [ByteArray.toList_eq, ByteArray.toList_eq] at hxe
          exact hxe)
        have hmem : ((x, m) : Pl) ∈ placesF L.l := places_mem.2 ⟨List.mem_of_getElem? hx, by show numOf x.f0 = some m; rw [hxn]; exact numOf_nameB h.top⟩
        obtain ⟨a, e1, e2⟩ := last_of h.right h.ch hmem rfl
        have hlp : lastPl L.l = some (x, m) := by
          rw [lastPl, e1, List.getLast?_append]
          rfl
        unfold isFull at hf
        rw [hlp] at hf
        simp only at hf e2
        have := h.lo
        omega
    have hrf : rfC (nameB m) L.l.length (bsOf L.l (nameB m)) (isAt L.l (nameB m) (bsOf L.l (nameB m))) = 0 := by
      unfold rfC
      rw [hat, if_neg, if_neg (by simp), if_neg (by omega)]
      rw [nameB_size, nameB_list]
      intro hh
      rcases hh with hh | hh
      · have := congrArg List.length hh
        rw [hexN_length] at this
        cases this
      · omega
    rw [hu, ha, h.dn, createF, changed_whole h.right, if_pos (by simpa using hrf)]
    exact ⟨rfl, rfl, rfl⟩
  · exact ⟨rfl, hu, ha⟩
theorem putDo_done {L : Lg} {ds : List Bytes} {n m : Nat} {a : List Pl} {p : Pl} {s : ByteArray} (h : WF L ds n m) (hu : L.fu = -1) (ha : L.fa = -1) (hp : placesF L.l = a ++ [p]) (hs : p.1.f1.size + s.size ≤ 262144) : (putDo L s).2 = 0 ∧ (putDo L s).1.fu = -1 ∧ (putDo L s).1.fa = -1 := by
  have hp' : placesF L.l = a ++ p :: [] := hp
  obtain ⟨g1, g2, g3, _⟩ := place_at h.right hp'
  have e1 : stepA L p.1.f0 s = (chg L (L.l.set (bsOf L.l p.1.f0) ⟨p.1.f0, p.1.f1 ++ s, p.1.f2⟩, false, -1, -1, 0), 0) := by
    have hA : appendF L.l L.dn L.fu L.fa p.1.f0 s = (L.l.set (bsOf L.l p.1.f0) ⟨p.1.f0, p.1.f1 ++ s, p.1.f2⟩, false, -1, -1, 0) := by
      rw [hu, ha, h.dn, appendF, changed_whole h.right, if_pos (by simp [rfW, g2, rd_get g1]; omega)]
      simp only [Int.toNat_natCast, rd_get g1]
    rw [stepA, hA]
  have hz : (appendF L.l L.dn L.fu L.fa p.1.f0 s).2.2.2.2 = 0 := by
    have := congrArg Prod.snd e1
    exact this
  obtain ⟨k1, k2, k3, k4⟩ := append_all (L := L) hp' hz
  have hp2 : placesF (stepA L p.1.f0 s).1.l = a ++ ((⟨p.1.f0, p.1.f1 ++ s, p.1.f2⟩ : S67), p.2) :: [] := k2
  have hr2 : rightF (stepA L p.1.f0 s).1.l = true := k1
  obtain ⟨j1, j2, j3, _⟩ := place_at hr2 hp2
  have hd2 : (stepA L p.1.f0 s).1.dn = false ∧ (stepA L p.1.f0 s).1.fu = -1 ∧ (stepA L p.1.f0 s).1.fa = -1 := by rw [e1]; exact ⟨rfl, rfl, rfl⟩
  have e2 : (stepS (stepA L p.1.f0 s).1 p.1.f0).2 = 0 ∧ (stepS (stepA L p.1.f0 s).1 p.1.f0).1.fu = -1 ∧ (stepS (stepA L p.1.f0 s).1 p.1.f0).1.fa = -1 := by
    simp only at j1 j2
    rw [stepS, hd2.1, hd2.2.1, hd2.2.2, syncF, changed_whole hr2, if_pos (by simp [j2])]
    exact ⟨rfl, rfl, rfl⟩
  unfold putDo
  rw [lastNm_of hp, if_pos (by rw [e1]), if_pos e2.1]
  exact ⟨rfl, e2.2.1, e2.2.2⟩
theorem append_done {L : Lg} {ds : List Bytes} {n m : Nat} {d : ByteArray} (h : WF L ds n m) (hu : L.fu = -1) (ha : L.fa = -1) (hd : d.size ≤ 65536) (hm : m < most) (hl : L.l.length < 64) :
    ∃ R, appendL L d = (R, 0) ∧ R.fu = -1 ∧ R.fa = -1 := by
  have hfs : (frameF L.nx d).size = 16 + d.size := by rw [h.nx]; exact frameF_size m d
  obtain ⟨c1, c2, c3⟩ := stepC_done (k := (frameF L.nx d).size) h hu ha (by omega) hl
  obtain ⟨L1, hL1⟩ : ∃ L1, stepC L (frameF L.nx d).size = (L1, 0) := ⟨_, Prod.ext rfl c1⟩
  rw [hL1] at c2 c3
  obtain ⟨w1, w2, w3, a, p, w4, w5⟩ := stepC_ok h hL1
  obtain ⟨p1, p2, p3⟩ := putDo_done (s := frameF L.nx d) w1 c2 c3 w4 (by omega)
  refine ⟨(putDo L1 (frameF L.nx d)).1, ?_, p2, p3⟩
  rw [appendL, if_pos h.okL, appendDo, h.br, if_neg (by simp), if_neg (by omega), if_neg (by rw [h.nx]; unfold most at hm; omega), hL1, if_pos rfl]
  exact Prod.ext rfl p1
/-! ### A log without anything -/
def L0s (size : Int) : Lg := ⟨[], false, -1, -1, size, 1, 1, false⟩
theorem right_nil : rightF ([] : List S67) = true := by decide
theorem places_nil : placesF ([] : List S67) = [] := List.filterMap_nil
theorem WF_nil {size : Int} (h0 : 1 ≤ size) (h1 : size ≤ 262144) : WF (L0s size) [] 1 1 :=
  ⟨right_nil, rfl, rfl, h0, h1, by show firstN (placesF []) = 1; rw [places_nil]; rfl, by show chain SU 1 (placesF []) [] 1; rw [places_nil]; exact ⟨rfl, rfl⟩, by decide, rfl, rfl⟩
theorem open_nil {size : Int} (h0 : 1 ≤ size) (h1 : size ≤ 262144) : openF [] false (-1) (-1) size = (L0s size, [], 0) := by
  have h := (WF_nil h0 h1).opens
  exact h
theorem open_bad {size : Int} (h : size < 1 ∨ 262144 < size) : openF [] false (-1) (-1) size = (Lz, [], 2) := by
  rw [openF, if_pos right_nil, if_pos h]
/-- What 'lives' asks for. -/
theorem lives_plain (d : ByteArray) (hd : d.size = 2) : ∃ R x, appendL (L0s 100) d = (R, 0) ∧ R.nx = 2 ∧ R.dn = false ∧ R.fu = -1 ∧ R.fa = -1 ∧ rightF R.l = true ∧ readF R.l false (nameB 1) = (x, 0) ∧ x.size = 18 ∧ recordsL R = ([⟨1, d⟩], 0) := by
  have h := WF_nil (size := 100) (by decide) (by decide)
  obtain ⟨R, h1, h2, h3⟩ := append_done (d := d) h rfl rfl (by omega) (by decide) (by decide)
  obtain ⟨w, _, hl, _, _⟩ := append_ok h h1
  have hl1 : R.l.length ≤ 1 := hl
  have hpl : ∃ f, placesF R.l = [(f, 1)] ∧ f.f1.size = 18 := by
    have hc := w.ch
    have hple := places_len R.l
    cases hps : placesF R.l with
    | nil =>
      rw [hps] at hc
      obtain ⟨h4, _⟩ := hc
      simp at h4
    | cons p r =>
      rw [hps] at hc hple
      have hr : r = [] := List.length_eq_zero_iff.1 (by simp only [List.length_cons] at hple; omega)
      subst hr
      obtain ⟨c1, d1, d2, c2, c3, c4, _⟩ := hc
      subst c4
      have ha : d1 = [byt d] := by simpa using c2.symm
      subst ha
      refine ⟨p.1, by rw [← c1], ?_⟩
      have := congrArg List.length (whole_bytes c3).1
      rw [byt_length] at this
      rw [this]
      simp [framesL, frame_length, byt_length, hd]
  obtain ⟨f, hf, hfs⟩ := hpl
  obtain ⟨g1, g2, g3, _⟩ := place_at w.right (a := []) (b := []) (p := (f, 1)) hf
  have hfn : f.f0 = nameB 1 := name_of g3
  have hmem : f ∈ R.l := List.mem_of_getElem? g1
  refine ⟨R, f.f1, h1, w.nx, w.dn, h2, h3, w.right, at_read w.right hmem (by rw [hfn]), hfs, ?_⟩
  rw [w.records]
  show ([(⟨((1 : Nat) : Int), ⟨(byt d).toArray⟩⟩ : S62)], (0 : Int)) = _
  rw [show (⟨(byt d).toArray⟩ : ByteArray) = d from byt_inj (byt_mk _)]
  rfl
end Go.Proofs.YtanonhipicoigaaGreatDoor.U
