import Derived.Test.YtanonhipicoigaaGreatDoorZRal
import Derived.RangeFuncSeq
import Derived.OwnWalkIn
import Derived.RegionIn
import Derived.LoopNIn
import Derived.LoopIn
import Derived.LoopN
import Derived.Test.YtanonhipicoigaaGreatDoorZRag
set_option linter.unusedVariables false
set_option linter.unusedSimpArgs false
set_option maxRecDepth 100000
namespace Go.Proofs.U
open Go.RowKit Go.Proofs.aA.aK Go.Proofs.aA.aW Go.Proofs.aA.aX Go.Proofs.Sp Go.Proofs.gB
theorem TM {ops : Array Oper} {rest : List Oper} {o : Oper} {a : Act} {Q : Exit → Act → World → Prop} {b W : World} {rs : List Res} (hgd : o.guard = none) (s x : Operand) (ho : o.op = .call { callee := .builtin .append, args := #[s, x], argTypes := #[25, 25] })
  (A : Option Addr) (c : Nat) (l : List S67) (hs : a.eval s = .slice none 0 0) (hx : a.eval x = .slice A l.length c) (H : aC (Sep b W rs)) (hr : Kd.C k67 W A l.length l) (hl : l.length ≤ 64)
  (h : ∀ A1 c1 W', aC (Sep b W' (lV A1 c1 l :: rs)) → wpList Tryz.prog ops Q rest (a.put o.dst (.slice A1 l.length c1)) W') : wpList Tryz.prog ops Q (o :: rest) a W := by
 refine Kd.tK k67 (w0 := W) W.heap.size hgd s x 25 67 (.agg #[(.string ⟨#[]⟩), (.string ⟨#[]⟩), (.int .i64 0)]) 40 ho Tryz.underlying25 DZ rfl (by decide) (by omega) (.slice none 0 0) [] l A l.length c (fun _ => True) (fun _ => False) hs hx
  (Kd.CB _ _ _ _ _) hr (fun x cs h => by obtain rfl := PS h; exact xW _ _ _ _) (fun _ h => h.elim) (fun _ _ => trivial) (Below.refl _ _) (Nat.le_refl _) (by simp only [List.length_nil]; omega) ?_
 intro v1 w1 ho hb hg hat
 obtain ⟨A1, c1, rfl⟩ := Kd.dZ ho
 exact h A1 c1 w1 ⟨H.out.jQ hb ho o9⟩
theorem qdF : (Tryz.prog.info? 27).map (fun i => i.size) = some 4 := by kernel_rfl
set_option maxHeartbeats 4000000 in
theorem NH (A : Option Addr) (c : Nat) (l : List S67) (dn : Bool) (fu fa : Int) (w : World) (hr : Kd.C k67 w A l.length l) (hl : l.length ≤ 64) :
  Calls Tryz.prog 69 #[.agg #[.slice A l.length c, .bool dn, .int .i64 fu, .int .i64 fa]] w fun e w' => ∃ A1 c1, e = .returned (.agg #[.slice A1 l.length c1, .bool dn, .int .i64 fu, .int .i64 fa]) ∧ aC (Sep w w' [lV A1 c1 l]) := by
 have HRp := aC.mk hr
 clear hr
 have H := aC.mk (Sep.start w)
 go_enter Tryz.func69, Tryz.ntmps69
 go_wp2_with (first
 |((with_reducible refine aU (N := 1) rfl ?_);
   refine bK rfl H (cs := [.slice A l.length c, .bool dn, .int .i64 fu, .int .i64 fa]) (t := 27) ?hr ?_;
   (case hr => first | (go_simp; done) | (go_simp; rfl));
   intro gd wd1 n_;
   simp only [Act.put, zA, zZ, zS];
   clear H;
   have H := n_;
   clear n_;
   have c_d := H.out.cell (g := gd) aP;
   have z_d := H.out.frozen (g := gd) aP)
 |((with_reducible refine aU (N := 2) rfl ?_);
   refine bK rfl H (cs := [.slice none 0 0, .bool false, .int .i64 0, .int .i64 0]) (t := 27) ?hr ?_;
   (case hr => first | (go_simp; done) | (go_simp; rfl));
   intro gz wd2 n_;
   simp only [Act.put, zA, zZ, zS];
   clear H c_d z_d;
   have H := n_;
   clear n_;
   have c_z := H.out.cell (g := gz) aP;
   have z_z := H.out.frozen (g := gz) aP;
   have c_d := H.out.cell (g := gd) mem1;
   have z_d := H.out.frozen (g := gd) mem1)
 |((with_reducible refine jC (b := .append) (xs := #[.const (.slice none 0 0), .tmp 4]) rfl ?_); at_builtin;
   refine TM rfl _ _ rfl A c l rfl rfl H (H.out.came HRp.out) hl ?_;
   intro A1 c1 wd3 n_;
   clear H c_z z_z c_d z_d;
   have H := n_;
   clear n_;
   have c_z := H.out.cell (g := gz) mem1;
   have z_z := H.out.frozen (g := gz) mem1;
   have c_d := H.out.cell (g := gd) mem2;
   have z_d := H.out.frozen (g := gd) mem2)
 |((with_reducible refine aV (t := 25) (p := 6) rfl ?_);
   refine bH (rs1 := [row k67 67 (.slice A1 (l).length c1) l, box gz [.slice none 0 0, .bool false, .int .i64 0, .int .i64 0] 27, box gd [.slice A1 l.length c1, .bool dn, .int .i64 fu, .int .i64 fa] 27]) rfl (t := 25) (p := 6) rfl rfl ?hr (H1 := (Sep.set2 H.out 0 (.slice A1 l.length c1) rfl)) ?_;
   (case hr => first | (go_simp; done) | (go_simp; rfl));
   intro wd4 n_;
   clear H c_z z_z c_d z_d;
   have H := n_;
   clear n_;
   have c_z := H.out.cell (g := gz) mem1;
   have z_z := H.out.frozen (g := gz) mem1;
   have c_d := H.out.cell (g := gd) mem2;
   have z_d := H.out.frozen (g := gd) mem2)
 |((with_reducible refine aV (t := 27) (p := 2) rfl ?_);
   refine bH (rs1 := [row k67 67 (.slice A1 (l).length c1) l, box gz [.slice A1 l.length c1, .bool dn, .int .i64 fu, .int .i64 fa] 27, box gd [.slice A1 l.length c1, .bool dn, .int .i64 fu, .int .i64 fa] 27]) rfl (t := 27) (p := 2) rfl rfl ?hr (H1 := (Sep.set1 (Sep.set1 (Sep.set1 (Sep.set1 H.out 0 (.slice A1 l.length c1) rfl) 1 (.bool dn) rfl) 2 (.int .i64 fu) rfl) 3 (.int .i64 fa) rfl)) ?_;
   (case hr => first | (go_simp; done) | (go_simp; rfl));
   intro wd5 n_;
   clear H c_z z_z c_d z_d;
   have H := n_;
   clear n_;
   have c_z := H.out.cell (g := gz) mem1;
   have z_z := H.out.frozen (g := gz) mem1;
   have c_d := H.out.cell (g := gd) mem2;
   have z_d := H.out.frozen (g := gd) mem2)
 |fail)
 refine bodyPost_ret (wF (r := .cell 2 27) rfl (.cell gz 27 _ _ _ rfl (H.out.jF (g := gz) mem1) Tryz.underlying27 rfl qdF .nil)) rfl ?_
 exact ⟨A1, c1, rfl, ⟨(Sep.drop1 (Sep.drop2 H.out))⟩⟩
theorem qb9 {n b : Int} (h0 : 0 ≤ n) (h1 : n < 16777216) (b0 : 0 ≤ b) (b1 : b ≤ 255) : bits .or .i64 (n * 256) b = n * 256 + b := by
 have e : (n * 256) % 2 ^ 8 = 0 := by
  rw [show (2 : Int) ^ 8 = 256 from rfl]
  omega
 refine bits_join .i64 62 (by decide) (fun m hm0 hm1 => ?_) 8 (n * 256) b (by omega) e ?_ b0 ?_ ?_
 ·have h2 : (2 : Int) ^ 62 = 4611686018427387904 := rfl
  rw [h2] at hm1
  rw [IntKind.wrap_i64]
  omega
 ·have h2 : (2 : Int) ^ 62 = 4611686018427387904 := rfl
  rw [h2]
  omega
 ·have h2 : (2 : Int) ^ 8 = 256 := rfl
  rw [h2]
  omega
 ·have h2 : (2 : Int) ^ 62 = 4611686018427387904 := rfl
  rw [h2]
  omega
def encR (x : Rc) : Array Value := #[.int .i64 (x.1 : Int), .agg #[.int .u64 (x.2.1 : Int), .string x.2.2]]
def QU (gs gq : Nat) (s : ByteArray) (q : Nat) (pre : List Rc) : List Res := [box gq [.int .u64 ((q + pre.length : Nat) : Int)] 28, box gs [.string s] 9]
set_option maxHeartbeats 4000000 in
theorem qca (b0 : World) (s : ByteArray) (q : Nat) (gs gq : Nat) (hs : s.size ≤ 262144) (hq : q ≤ most) : qaV Tryz.prog b0 159 #[.pointer (some ⟨gs, 0, none⟩), .pointer (some ⟨gq, 0, none⟩)] encR (lY s 0 q) (QU gs gq s q) := by
  intro l T W hY HH
  obtain ⟨ts0, hT0, H⟩ := HH
  refine callsIn_wide.2 ?_
  obtain ⟨xs, hxs⟩ : ∃ xs, xs = lY s 0 q := ⟨_, rfl⟩
  rw [← hxs] at hY ⊢
  have HY := aC.mk hY
  have HX := aC.mk hxs
  clear hY hxs
  have H1 : aC (Sep b0 W (box gq [.int .u64 (q : Int)] 28 :: box gs [.string s] 9 :: ts0)) := H
  clear H
  have c_q := H1.out.cell (g := gq) aP
  have c_s := H1.out.cell (g := gs) mem1
  go_enter Tryz.func159, Tryz.ntmps159
  go_wp2_with fail
  go_loopw [4, 5, 6, 7] (fun v4 v5 v6 v7 wr => ∃ (pre : List Rc) (at_ m : Nat) (ts : List Res), v4 = .int .i64 (at_ : Int) ∧ at_ ≤ s.size ∧ aC (m = q + pre.length) ∧ aC (m ≤ most) ∧ aC (xs = pre ++ lY s at_ m) ∧ aC (T pre ts) ∧ aC (Sep b0 wr (box gq [.int .u64 (m : Int)] 28 :: box gs [.string s] 9 :: ts)))
    (fun v4 _ _ _ _ => s.size - (intOf v4).toNat)
  case atStart => exact ⟨[], 0, q, ts0, rfl, by omega, ⟨rfl⟩, ⟨hq⟩, HX, ⟨hT0⟩, H1⟩
  case round =>
    clear H1 c_q c_s
    obtain ⟨pre, at_, m, ts, rfl, hat, HM, HMM, HXS, HT, H0⟩ := hrel
    obtain ⟨mi, hmi⟩ : ∃ mi : Int, mi = (m : Int) := ⟨_, rfl⟩
    have H : aC (Sep b0 wr (box gq [.int .u64 mi] 28 :: box gs [.string s] 9 :: ts)) := by rw [hmi]; exact H0
    have HMI := aC.mk hmi
    have hm0 : 0 ≤ mi := by omega
    clear H0 hmi
    have c_q := H.out.cell (g := gq) aP
    have c_s := H.out.cell (g := gs) mem1
    have fin : lY s at_ m = [] → ∃ ts, T xs ts ∧ aC (Sep b0 wr (QU gs gq s q xs ++ ts)) := by
      intro h
      have h1 := HXS.out
      rw [h, List.append_nil] at h1
      refine ⟨ts, by rw [h1]; exact HT.out, ?_⟩
      rw [h1, QU, ← HM.out, ← HMI.out]
      exact H
    have FIN := aC.mk fin
    clear fin
    by_cases hgo : at_ + 16 ≤ s.size ∧ m < most
    · obtain ⟨h16, hmo⟩ := hgo
      have HMO := aC.mk hmo
      have qio : mi < 4611686018427387904 := by
        have := HMI.out
        unfold most at hmo
        omega
      clear hmo
      go_wp2_with fail
      go_loop [5, 6] (fun v5 v6 => ∃ (j : Nat), v5 = .int .i64 (D7 s at_ j) ∧ v6 = .int .i64 (3 - (j : Int)) ∧ j ≤ 4) (fun _ v6 => ((intOf v6) + 1).toNat)
      case atStart => exact ⟨0, rfl, rfl, by omega⟩
      case round =>
        obtain ⟨j, rfl, rfl, hj⟩ := hrel
        by_cases hlt : j < 4
        · have hb := tZ s ((at_ : Int) + (3 - (j : Int)))
          have ha : (0 : Int) ≤ at_ + (3 - (j : Int)) := by omega
          have ha2 : (at_ : Int) + (3 - (j : Int)) < (s.size : Int) := by omega
          have hnv := AV s at_ j
          have hp : (256 : Int) ^ j ≤ 256 ^ 3 := by
            have hj3 : j ≤ 3 := by omega
            have := Nat.pow_le_pow_right (show 0 < 256 by decide) hj3
            exact_mod_cast this
          have HN := aC.mk (AV s at_ j)
          have qen : D7 s at_ j < 16777216 := by
            have h2 : (256 : Int) ^ 3 = 16777216 := rfl
            omega
          have qeo : 0 ≤ D7 s at_ j := hnv.1
          have HS := aC.mk (show D7 s at_ (j + 1) = D7 s at_ j * 256 + bt s ((at_ : Int) + (3 - (j : Int))) from rfl)
          clear hnv hp HN
          obtain ⟨nv, hnv⟩ : ∃ nv, nv = D7 s at_ j := ⟨_, rfl⟩
          rw [← hnv] at qeo qen HS ⊢
          clear hnv
          go_wp2
          refine ⟨⟨j + 1, ?_, by congr 1; omega, by omega⟩, by simp [intOf]; omega⟩
          rw [HS.out]
          congr 1
          have e : ((at_ : Int) + (3 - (j : Int))).toNat = at_ + (3 - j) := by omega
          have hbt := VN s ((at_ : Int) + (3 - (j : Int))) (by omega)
          simp only [e] at hbt
          rw [hbt, show wrap64 (bt s ((at_ : Int) + (3 - (j : Int)))) = bt s ((at_ : Int) + (3 - (j : Int))) by unfold wrap64; omega]
          exact qb9 qeo qen hb.1 hb.2
        · obtain rfl : j = 4 := by omega
          obtain ⟨k, hk⟩ : ∃ k, k = wR (((byt s).drop at_).take 4) := ⟨_, rfl⟩
          rw [qdy h16, ← hk]
          have HK := aC.mk hk
          clear hk
          by_cases hbig : k ≤ 65536 ∧ k ≤ s.size - at_ - 16
          · obtain ⟨hb1, hb2⟩ := hbig
            have hb3 : (k : Int) ≤ (s.size : Int) - (at_ : Int) - 16 := by omega
            obtain ⟨dt, hdt⟩ : ∃ dt, dt = s.extract (at_ + 16) (at_ + 16 + k) := ⟨_, rfl⟩
            obtain ⟨fr, hfr⟩ : ∃ fr, fr = s.extract at_ (at_ + 16 + k) := ⟨_, rfl⟩
            have HDT := aC.mk hdt
            have HFR := aC.mk hfr
            have hds : dt.size = k := by rw [hdt, ByteArray.size_extract]; omega
            have HDS := aC.mk hds
            replace hdt := hdt.symm
            replace hfr := hfr.symm
            clear hds
            obtain ⟨ff, hff⟩ : ∃ ff, ff = fV mi dt := ⟨_, rfl⟩
            have HFF := aC.mk hff
            have FM := aC.mk (fun w => hff ▸ KY mi dt w (by rw [HDS.out]; exact hb1) hm0 (by omega))
            clear hff
            go_upto_region 10 with fail
            have hw1 : wrap64 ((at_ : Int) + 16) = (at_ : Int) + 16 := by unfold wrap64; omega
            have hw2 : wrap64 ((at_ : Int) + 16 + (k : Int)) = (at_ : Int) + 16 + (k : Int) := by unfold wrap64; omega
            have hw3 : (0 : Int) ≤ (at_ : Int) + 16 + (k : Int) := by omega
            have hw4 : (at_ : Int) + 16 + (k : Int) ≤ (s.size : Int) := by omega
            have hw5 : (at_ : Int) ≤ (at_ : Int) + 16 + (k : Int) := by omega
            have hw6 : ((at_ : Int) + 16 + (k : Int)).toNat = at_ + 16 + k := by omega
            refine fO (n := 11) (S := fun w' => w'.cell? ⟨gs, 0, none⟩ = some (.string s) ∧ w'.cell? ⟨gq, 0, none⟩ = some (.int .u64 mi) ∧ Sp.Sep b0 w' (box gq [.int .u64 mi] 28 :: box gs [.string s] 9 :: ts)) (ds := []) #[false, false, false, false, false, false, false, false, false, false, false] (by kernel_rfl) rfl rfl ⟨((Sep.cell (g := gs) (Sep.drew H.out) mem1 0).trans rfl), ((Sep.cell (g := gq) (Sep.drew H.out) aP 0).trans rfl), (Sep.drew H.out)⟩ (fun hHeld => ?_)
            refine puS (i := 1) (N := some 52) (v := ?_) (a' := ?_) rfl rfl (by kernel_rfl) (fun _ _ _ h => h) (Or.inl ⟨by rfl, ?_⟩) ?_ ?_
            rotate_left
            · intro w'
              go_simp
              with_reducible rfl
            rotate_left
            · simp only [Act.put, zA, zZ, zS, aI, aJ]
              rfl
            refine puS (i := 2) (N := some 53) (v := ?_) (a' := ?_) rfl rfl (by kernel_rfl) (fun _ _ _ h => h) (Or.inl ⟨by rfl, ?_⟩) ?_ ?_
            rotate_left
            · intro w'
              go_simp
              with_reducible rfl
            rotate_left
            · simp only [Act.put, zA, zZ, zS, aI, aJ]
              rfl
            refine puS (i := 3) (N := some 54) (v := ?_) (a' := ?_) rfl rfl (by kernel_rfl) (fun _ _ _ h => h) (Or.inl ⟨by rfl, ?_⟩) ?_ ?_
            rotate_left
            · intro w'
              go_simp
              with_reducible rfl
            rotate_left
            · simp only [Act.put, zA, zZ, zS, aI, aJ]
              rfl
            refine puS (i := 4) (N := some 55) (v := ?_) (a' := ?_) rfl rfl (by kernel_rfl) (fun _ _ _ h => h) (Or.inl ⟨by rfl, ?_⟩) ?_ ?_
            rotate_left
            · intro w'
              go_simp
              with_reducible rfl
            rotate_left
            · simp only [Act.put, zA, zZ, zS, aI, aJ]
              rfl
            refine puS (i := 5) (N := some 56) (v := ?_) (a' := ?_) rfl rfl (by kernel_rfl) (fun _ _ _ h => h) (Or.inl ⟨by rfl, ?_⟩) ?_ ?_
            rotate_left
            · intro w'
              go_simp
              with_reducible rfl
            rotate_left
            · simp only [Act.put, zA, zZ, zS, aI, aJ]
              rfl
            refine puS (i := 8) (N := some 59) (v := ?_) (a' := ?_) rfl rfl (by kernel_rfl) (fun _ _ _ h => h) (Or.inl ⟨by rfl, ?_⟩) ?_ ?_
            rotate_left
            · intro w'
              go_simp
              with_reducible rfl
            rotate_left
            · simp only [Act.put, zA, zZ, zS, aI, aJ]
              rfl
            refine tkS (i := 0) (N := some 51) (v := ?_) (a' := ?_) rfl rfl (by kernel_rfl) (fun _ _ _ h => h) (Or.inl ⟨by rfl, ?_⟩) hHeld ?_ ?_
            rotate_left
            · rintro w' ⟨s0, s1, s2⟩
              go_simp
              with_reducible rfl
            rotate_left
            · simp only [Act.put, zA, zZ, zS, aI, aJ]
              rfl
            refine puS (i := 6) (N := some 57) (v := ?_) (a' := ?_) rfl rfl (by kernel_rfl) (fun _ _ _ h => h) (Or.inl ⟨by rfl, ?_⟩) ?_ ?_
            rotate_left
            · intro w'
              go_simp
              with_reducible rfl
            rotate_left
            · simp only [Act.put, zA, zZ, zS, aI, aJ]
              rfl
            refine tkS (i := 7) (N := some 58) (v := ?_) (a' := ?_) rfl rfl (by kernel_rfl) (fun _ _ _ h => h) (Or.inl ⟨by rfl, ?_⟩) hHeld ?_ ?_
            rotate_left
            · rintro w' ⟨s0, s1, s2⟩
              go_simp
              with_reducible rfl
            rotate_left
            · simp only [Act.put, zA, zZ, zS, aI, aJ]
              rfl
            refine onS (i := 9) (N := some 60) rfl rfl (by kernel_rfl) (by decide) (fun K hK => ?_)
            refine oC Tryz.func78 (by kernel_rfl) rfl #[.int .u64 mi, .string dt] (by rfl) rfl rfl (by simp only [List.map_toArray, List.map_cons, List.map_nil]; rfl) ?_
            with_reducible refine (FM.out _).mono ?_
            rintro e w3 ⟨rfl, hb⟩
            refine ⟨_, rfl, ?_⟩
            refine hK.out _ _ ⟨((Sep.cell (g := gs) (Sep.step hHeld.2.2 hb) mem1 0).trans rfl), ((Sep.cell (g := gq) (Sep.step hHeld.2.2 hb) aP 0).trans rfl), (Sep.step hHeld.2.2 hb)⟩ (fun hHeld => ?_)
            clear hK K
            refine fE (a' := ?_) ?_ ?_
            rotate_left
            · show Act.put _ (some 60) _ = _
              simp only [Act.put, zA, zZ, zS, aI, aJ]
              rfl
            refine puS (i := 10) (N := some 61) (v := ?_) (a' := ?_) rfl rfl (by kernel_rfl) (fun _ _ _ h => h) (Or.inl ⟨by rfl, ?_⟩) ?_ ?_
            rotate_left
            · intro w'
              go_simp
              with_reducible rfl
            rotate_left
            · simp only [Act.put, zA, zZ, zS, aI, aJ]
              rfl
            refine iT (by kernel_rfl) ?_
            clear hw1 hw2 hw3 hw4 hw5 hw6
            obtain ⟨_, _, H3⟩ := hHeld
            replace H := aC.mk H3
            clear H3 c_q c_s
            have c_q := H.out.cell (g := gq) aP
            have c_s := H.out.cell (g := gs) mem1
            have z_q := H.out.frozen (g := gq) aP
            rw [hdt]
            cases hq1 : (fr.toList == ff.toList)
            · have hne : fr ≠ ff := by
                intro e
                rw [e] at hq1
                simp at hq1
              have hnone := D6 (QI (s := s) (a := at_) (n := m) HK.out (by rw [← HFR.out, ← HDT.out, ← HMI.out, ← HFF.out]; exact hne))
              have h1 := HXS.out
              rw [hnone, List.append_nil] at h1
              have HF := aC.mk h1
              clear hnone h1 hne
              go_wp2_with fail
              refine bodyPost_ret (results_none rfl _ _ _) rfl ?_
              refine ⟨⟨_, rfl⟩, ts, by rw [HF.out]; exact HT.out, ?_⟩
              rw [HF.out, QU, ← HM.out, ← HMI.out]
              exact H
            · have heq : fr = ff := by
                have h := beq_iff_eq.1 hq1
                rw [ByteArray.toList_eq, ByteArray.toList_eq] at h
                exact qE h
              have hsome := ZC (qaY (s := s) (a := at_) (n := m) HK.out h16 HMO.out hb1 hb2 (by rw [← HFR.out, ← HDT.out, ← HMI.out, ← HFF.out]; exact heq))
              rw [← HDT.out] at hsome
              have h1 := HXS.out
              rw [hsome] at h1
              have HXX := aC.mk h1
              clear hsome h1 heq
              go_upto_region 12 with fail
              refine wpIn_wide (n := 0).1 ?_
              have H4 : aC (Sep b0 w3 (QU gs gq s q pre ++ ts)) := by
                rw [QU, ← HM.out, ← HMI.out]
                exact H
              obtain ⟨fn, tmps, assign, body, hy, hR⟩ := HY.out pre _ _ HXX.out w3 ts HT.out H4
              have he : encR (at_ + 16 + dt.size, m, dt) = #[.int .i64 ((at_ : Int) + (16 + (k : Int))), .agg #[.int .u64 mi, .string dt]] := by
                simp only [encR, HDS.out, HMI.out]
                rw [show ((at_ + 16 + k : Nat) : Int) = (at_ : Int) + (16 + (k : Int)) by omega]
              rw [he] at hy
              clear H4 he
              gi_wp2
              refine ⟨rfl, hR.mono ?_⟩
              rintro e w4 ⟨rfl, ts2, hT2, H5⟩
              have HT2 := aC.mk hT2
              clear hT2
              have H6 : aC (Sep b0 w4 (box gq [.int .u64 mi] 28 :: box gs [.string s] 9 :: ts2)) := by
                have := H5
                rw [QU, ← HM.out, ← HMI.out] at this
                exact this
              clear H5 H hy hR c_q c_s z_q
              have c_q := H6.out.cell (g := gq) aP
              have c_s := H6.out.cell (g := gs) mem1
              have z_q := H6.out.frozen (g := gq) aP
              gi_wp2
              go_wp2
              refine ⟨⟨pre ++ [(at_ + 16 + dt.size, m, dt)], at_ + 16 + k, m + 1, ts2, ?_, by omega, ⟨?_⟩, ⟨?_⟩, ⟨?_⟩, HT2, ⟨?_⟩⟩, ?_⟩
              · rw [show ((at_ + 16 + k : Nat) : Int) = (at_ : Int) + (16 + (k : Int)) by omega]
              · rw [HM.out, List.length_append]
                rfl
              · have := HMO.out
                omega
              · rw [HXX.out, HDS.out]
                simp
              · have h := Sep.set0 (cs' := [.int .u64 (((m + 1 : Nat)) : Int)]) H6.out 0 (.int .u64 (mi + 1)) (by rw [HMI.out]; rfl)
                exact h
              · simp [intOf]
                omega
          · have hnone := FIN.out (D6 (ZE HK.out hbig))
            have HF := aC.mk hnone
            clear hnone
            have hor : ¬ k ≤ 65536 ∨ (k ≤ 65536 ∧ ¬ (k : Int) ≤ (s.size : Int) - (at_ : Int) - 16) := by omega
            clear hbig
            rcases hor with h1 | ⟨h1, h2⟩
            · go_wp2_with fail
              refine bodyPost_ret (results_none rfl _ _ _) rfl ?_
              exact ⟨⟨_, rfl⟩, HF.out⟩
            · go_wp2_with fail
              refine bodyPost_ret (results_none rfl _ _ _) rfl ?_
              exact ⟨⟨_, rfl⟩, HF.out⟩
    · have hnone := FIN.out (D6 (qaX hgo))
      have hor : ¬ (at_ + 16 ≤ s.size) ∨ (at_ + 16 ≤ s.size ∧ (4611686018427387904 : Int) ≤ mi) := by
        have := HMI.out
        unfold most at hgo
        omega
      have HF := aC.mk hnone
      clear hgo hnone
      rcases hor with h16 | ⟨h16, hmo⟩
      · go_wp2_with fail
        go_end0
        exact ⟨⟨_, rfl⟩, HF.out⟩
      · go_wp2_with fail
        go_end0
        exact ⟨⟨_, rfl⟩, HF.out⟩
theorem TN (b w : World) (rs : List Res) (s : ByteArray) (q : Int) (H : aC (Sep b w rs)) :
  Calls Tryz.prog 115 #[.string s, .int .u64 q] w fun e w' => ∃ gs gq, e = .returned (.func (.func 159) #[] #[.pointer (some ⟨gs, 0, none⟩), .pointer (some ⟨gq, 0, none⟩)]) ∧ aC (Sep b w' (box gq [.int .u64 q] 28 :: box gs [.string s] 9 :: rs)) := by
 go_enter Tryz.func115, Tryz.ntmps115
 go_wp2_with (first
 |((with_reducible refine aU (N := 2) rfl ?_);
   refine bK rfl H (cs := [.string s]) (t := 9) ?hr ?_;
   (case hr => first | (go_simp; done) | (go_simp; rfl));
   intro gs w1 n_;
   simp only [Act.put, zA, zZ, zS];
   clear H; have H := n_; clear n_)
 |((with_reducible refine aU (N := 3) rfl ?_);
   refine bK rfl H (cs := [.int .u64 q]) (t := 28) ?hr ?_;
   (case hr => first | (go_simp; done) | (go_simp; rfl));
   intro gq w2 n_;
   simp only [Act.put, zA, zZ, zS];
   clear H; have H := n_; clear n_)
 |fail)
 go_ret
 exact ⟨gs, gq, rfl, H⟩
end Go.Proofs.U
namespace Go.Proofs.gB
open Go.Proofs.U Go.RowKit Go.Proofs.aA.aK
def jE (x : Rc) : S62 := ⟨(x.2.1 : Int), x.2.2⟩
def bV : List Bytes → Nat → List S62
 | [], _ => []
 | d :: ds, n => ⟨(n : Int), ⟨d.toArray⟩⟩ :: bV ds (n + 1)
theorem qO : ∀ (ds : List Bytes) (n : Nat), (bV ds n).length = ds.length
 | [], _ => rfl
 | d :: ds, n => by rw [bV, List.length_cons, qO ds (n + 1), List.length_cons]
theorem sW : ∀ (a b : List Bytes) (n : Nat), bV (a ++ b) n = bV a n ++ bV b (n + a.length)
 | [], b, n => by simp [bV]
 | d :: a, b, n => by
  rw [List.cons_append, bV, bV, sW a b (n + 1), List.length_cons, show n + 1 + a.length = n + (a.length + 1) by omega]
  rfl
theorem LM : ∀ (ds : List Bytes) (a n : Nat), (wV ds a n).map jE = bV ds n
 | [], _, _ => rfl
 | d :: ds, a, n => by
  rw [wV, List.map_cons, LM ds, bV]
  rfl
theorem vK : ∀ (ds : List Bytes) (a n : Nat), (wV ds a n).length = ds.length
 | [], _, _ => rfl
 | d :: ds, a, n => by rw [wV, List.length_cons, vK ds, List.length_cons]
def endOf (a : Nat) (l : List Rc) : Nat := l.foldl (fun _ r => r.1) a
theorem TP (a : Nat) (l : List Rc) (x : Rc) : endOf a (l ++ [x]) = x.1 := by simp [endOf]
theorem JO : ∀ (ds : List Bytes) (a n : Nat), endOf a (wV ds a n) = a + (fG SU n ds).length
 | [], a, n => by simp [wV, endOf, fG]
 | d :: ds, a, n => by
  have h := JO ds (a + 16 + d.length) (n + 1)
  rw [wV, fG, List.length_append, iL]
  show endOf (a + 16 + d.length) (wV ds (a + 16 + d.length) (n + 1)) = _
  rw [h]
  omega
theorem qa5 (s : ByteArray) (n : Nat) : endOf 0 (lY s 0 n) = (readB SU (byt s) n).2 := by
 obtain ⟨r, h1, h2, _⟩ := lI SU _ (byt s) n (Nat.le_refl _)
 rw [lY, List.drop_zero, JO, h2, Nat.zero_add]
def FI (F : Fd) (ps : List Pl) (i : Nat) (ds : List Bytes) (m : Nat) (t : Option (Pl × Nat)) : Prop :=
 (t = none ∧ F = ⟨ds ++ (goF SU (ps.drop i) m).recs, (goF SU (ps.drop i) m).next, (goF SU (ps.drop i) m).qN, (goF SU (ps.drop i) m).gone⟩) ∨ (∃ x, t = some x ∧ F = ⟨ds, m, some x, ps.drop i⟩)
theorem qa6 (ps : List Pl) (n : Nat) : FI (goF SU ps n) ps 0 [] n none := .inl ⟨rfl, by simp⟩
theorem VX {F : Fd} {ps : List Pl} {i : Nat} {ds : List Bytes} {m : Nat} {x : Pl × Nat} (h : FI F ps i ds m (some x)) : F = ⟨ds, m, some x, ps.drop i⟩ := by
 rcases h with ⟨h, _⟩ | ⟨y, hy, h⟩
 ·cases h
 ·injection hy with hy
  rw [hy]
  exact h
theorem qa7 {F : Fd} {ps : List Pl} {i : Nat} {ds : List Bytes} {m : Nat} {p : Pl} {r : List Pl} (h : FI F ps i ds m none) (hp : ps.drop i = p :: r) (hne : p.2 ≠ m) : F = ⟨ds, m, none, ps.drop i⟩ := by
 rcases h with ⟨_, h⟩ | ⟨y, hy, _⟩
 ·rw [h, hp, goF, if_neg hne]
  simp
 ·cases hy
theorem qdG {F : Fd} {ps : List Pl} {i : Nat} {ds : List Bytes} {m : Nat} (h : FI F ps i ds m none) (hi : ps.length ≤ i) : F = ⟨ds, m, none, []⟩ := by
 rcases h with ⟨_, h⟩ | ⟨y, hy, _⟩
 ·rw [h, List.drop_eq_nil_of_le hi, goF]
  simp
 ·cases hy
theorem qcb {F : Fd} {ps : List Pl} {i : Nat} {ds : List Bytes} {m : Nat} {p : Pl} (h : FI F ps i ds m none) (hp : ps.drop i = p :: ps.drop (i + 1)) (he : p.2 = m) :
  FI F ps (i + 1) (ds ++ (readB SU (byt p.1.f1) m).1) (m + (readB SU (byt p.1.f1) m).1.length) (if (readB SU (byt p.1.f1) m).2 < p.1.f1.size then some (p, (readB SU (byt p.1.f1) m).2) else none) := by
 rcases h with ⟨_, h⟩ | ⟨y, hy, _⟩
 ·rw [hp, goF, if_pos he] at h
  by_cases hc : (readB SU (byt p.1.f1) m).2 < p.1.f1.size
  ·rw [if_pos hc] at h ⊢
   exact .inr ⟨_, rfl, h⟩
  ·rw [if_neg hc] at h ⊢
   refine .inl ⟨rfl, ?_⟩
   rw [h, List.append_assoc]
 ·cases hy
end Go.Proofs.gB
namespace Go.Proofs.U
open Go.RowKit Go.Proofs.aA.aK Go.Proofs.aA.aW Go.Proofs.aA.aX Go.Proofs.Sp Go.Proofs.gB
attribute [local go_sem] Oper.semAt_some
def dP (ps : List Pl) : Nat := match ps with | [] => 1 | p :: _ => p.2
def pF (t : Option (Pl × Nat)) : ByteArray := match t with | none => ⟨#[]⟩ | some x => x.1.1.f0
def wW (t : Option (Pl × Nat)) : Int := match t with | none => 0 | some x => (x.2 : Int)
theorem qa8 {T : Array Value} {n : Nat} (h : T.size = n) : T = Array.ofFn (n := n) fun i => T.getD i.1 undef := by
 apply Array.ext
 ·simp [h]
 ·intro i h1 h2
  simp [h1]
theorem oV {l : List S67} {ps : List Pl} {p : Pl} (h : bI l = true) (hps : ps = aN l) (hp : p ∈ ps) : p.1.f1.size ≤ 262144 ∧ p.2 ≤ most ∧ p.1.f0.toList ≠ [] := by
 subst hps
 obtain ⟨f, hf, he⟩ := List.mem_filterMap.1 hp
 cases hn : numOf f.f0 with
 | none => rw [hn] at he; cases he
 | some n =>
  rw [hn] at he
  injection he with he
  subst he
  have h1 := lU.1 hn
  refine ⟨(((jM l).1 h).2.1 f hf).2.1, h1.1, fun e => ?_⟩
  have e2 : byt f.f0 = [] := by
   rw [ByteArray.toList_eq] at e
   exact e
  have h2 := congrArg List.length h1.2
  rw [e2, oQ] at h2
  cases h2
theorem FC (S : Sum) : ∀ (n : Nat) (ds : List Bytes), ds.length ≤ (fG S n ds).length
 | n, [] => Nat.le_refl _
 | n, d :: r => by
  have h := FC S (n + 1) r
  rw [fG, List.length_append, iL, List.length_cons]
  omega
theorem qa9 (s : ByteArray) (n : Nat) : (readB SU (byt s) n).1.length ≤ s.size := by
 obtain ⟨r, h1, h2, _⟩ := lI SU _ (byt s) n (Nat.le_refl _)
 have h3 := FC SU n (readB SU (byt s) n).1
 have h4 := congrArg List.length h1
 rw [dK, List.length_append] at h4
 omega
theorem qcc (s : ByteArray) (n : Nat) : (readB SU (byt s) n).2 ≤ s.size := by
 obtain ⟨r, h1, h2, _⟩ := lI SU _ (byt s) n (Nat.le_refl _)
 have h4 := congrArg List.length h1
 rw [dK, List.length_append] at h4
 omega
theorem QV (s : ByteArray) (a n : Nat) (ha : a = 0 := by rfl) : (lY s a n).length ≤ s.size := by
 subst ha
 rw [lY, vK, List.drop_zero]
 exact qa9 s n
theorem LP {ps : List Pl} {i : Nat} {p : Pl} (h : ps[i]? = some p) : ps.drop i = p :: ps.drop (i + 1) := by
 obtain ⟨hi, h⟩ := List.getElem?_eq_some_iff.1 h
 rw [List.drop_eq_getElem_cons hi, h]
theorem xY {w : World} {ad : Addr} {n i : Nat} {ps : List Pl} (h : Kd.C dX w (some ad) n ps) (hi : i ≤ n) : Kd.C dX w (some (ad.add (i * 4))) (n - i) (ps.drop i) := by
 obtain ⟨h1, h2, h3⟩ := h
 refine ⟨by rw [List.length_drop, h1], by omega, fun hlt => ⟨_, rfl, fun j p hj => ?_⟩⟩
 obtain ⟨ad2, e, h4⟩ := h3 (by omega)
 injection e with e
 subst e
 rw [List.getElem?_drop] at hj
 obtain ⟨c, a, b, d⟩ := h4 (i + j) p hj
 refine ⟨c, a, b, fun k u hk => ?_⟩
 have e := d k u hk
 rw [Go.Deep.add_add, ← e]
 have hs : dX.sz = 4 := rfl
 rw [hs, show i * 4 + (j * 4 + k) = (i + j) * 4 + k by omega]
theorem qcd : (Tryz.prog.info? 129).map (fun i => i.size) = some 6 := by kernel_rfl
theorem QX {S : Sum} : ∀ {ps : List Pl} {n : Nat} {x : Pl × Nat}, (goF S ps n).qN = some x → x.1 ∈ ps := by
 intro ps n x h
 obtain ⟨kept, ds, m, hc, hh⟩ := wU S ps n
 rcases hh with ⟨a1, _⟩ | ⟨p, e, dt, a1, a2, _⟩
 ·rw [h] at a1; cases a1
 ·rw [h] at a1
  injection a1 with a1
  rw [a1, a2]
  simp
theorem wX {w wd : World} {F : gB.Fd} {n0 : Nat} {ps : List Pl} {gz : Nat} {A1 Aq A2 : Option Addr} {c1 cq c2 : Nat} {T : Array Value} {mk : List Nat} (hT : T.getD 2 undef = .pointer (some ⟨gz, 0, none⟩))
  (H : Sep w wd (box gz [.slice A1 (bV F.recs n0).length c1, .int .u64 (n0 : Int), .int .u64 (F.next : Int), .string (pF F.qN), .int .i64 (wW F.qN), .slice A2 F.gone.length c2] 129 :: row k62 62 (.slice A1 (bV F.recs n0).length c1) (bV F.recs n0) :: row dX 139 (.slice Aq ps.length cq) ps :: marks mk))
  (hC : ∀ w', Kd.C dX w' Aq ps.length ps → Kd.C dX w' A2 F.gone.length F.gone) (h2 : F.gone.length ≤ c2) : bodyPostM Fence.wide 0 Tryz.prog Tryz.f68 (fun e w' => ∃ A1 c1 A2 c2 Aq cq, e = .returned (.agg #[.slice A1 (bV F.recs n0).length c1, .int .u64 (n0 : Int), .int .u64 (F.next : Int), .string (pF F.qN), .int .i64 (wW F.qN), .slice A2 F.gone.length c2])
    ∧ aC (Sep w w' [row k62 62 (.slice A1 (bV F.recs n0).length c1) (bV F.recs n0), row dX 139 (.slice Aq ps.length cq) ps])
    ∧ (∀ W, Kd.C dX W Aq ps.length ps → Kd.C dX W A2 F.gone.length F.gone) ∧ F.gone.length ≤ c2) .ret { tmps := T, defers := mk.map TD } wd := by
 refine CY (rs := [_, _, _]) mk _ ⟨H⟩ ?_
 intro w' H
 refine ⟨_, wF (r := .cell 2 129) rfl (.cell gz 129 _ _ _ hT (H.out.jF aP) Tryz.underlying129 rfl qcd .nil), A1, c1, A2, c2, Aq, cq, rfl, ⟨H.out.eG⟩, hC, h2⟩
theorem NI {T : Array Value} {x2 x3 x4 x26 x27 x28 : Value} (h : T.size = 80) (h2 : T[2]? = some x2) (h3 : T[3]? = some x3) (h4 : T[4]? = some x4) (h26 : T[26]? = some x26) (h27 : T[27]? = some x27) (h28 : T[28]? = some x28) : ∃ u : Nat → Value, T = #[u 0, u 1, x2, x3, x4, u 5, u 6, u 7, u 8, u 9, u 10, u 11, u 12, u 13, u 14, u 15, u 16, u 17, u 18, u 19, u 20, u 21, u 22, u 23, u 24, u 25, x26, x27, x28, u 29, u 30, u 31, u 32, u 33, u 34, u 35, u 36, u 37, u 38, u 39, u 40, u 41, u 42, u 43, u 44, u 45, u 46, u 47, u 48, u 49, u 50, u 51, u 52, u 53, u 54, u 55, u 56, u 57, u 58, u 59, u 60, u 61, u 62, u 63, u 64, u 65, u 66, u 67, u 68, u 69, u 70, u 71, u 72, u 73, u 74, u 75, u 76, u 77, u 78, u 79] := by
 obtain rfl : x2 = T.getD 2 undef := by simp [h2]
 obtain rfl : x3 = T.getD 3 undef := by simp [h3]
 obtain rfl : x4 = T.getD 4 undef := by simp [h4]
 obtain rfl : x26 = T.getD 26 undef := by simp [h26]
 obtain rfl : x27 = T.getD 27 undef := by simp [h27]
 obtain rfl : x28 = T.getD 28 undef := by simp [h28]
 exact ⟨fun k => T.getD k undef, (qa8 h).trans (by kernel_rfl)⟩
theorem KQ {T : Array Value} {x3 x7 x8 x9 : Value} (h : T.size = 80) (h3 : T[3]? = some x3) (h7 : T[7]? = some x7) (h8 : T[8]? = some x8) (h9 : T[9]? = some x9) : ∃ u : Nat → Value, T = #[u 0, u 1, u 2, x3, u 4, u 5, u 6, x7, x8, x9, u 10, u 11, u 12, u 13, u 14, u 15, u 16, u 17, u 18, u 19, u 20, u 21, u 22, u 23, u 24, u 25, u 26, u 27, u 28, u 29, u 30, u 31, u 32, u 33, u 34, u 35, u 36, u 37, u 38, u 39, u 40, u 41, u 42, u 43, u 44, u 45, u 46, u 47, u 48, u 49, u 50, u 51, u 52, u 53, u 54, u 55, u 56, u 57, u 58, u 59, u 60, u 61, u 62, u 63, u 64, u 65, u 66, u 67, u 68, u 69, u 70, u 71, u 72, u 73, u 74, u 75, u 76, u 77, u 78, u 79] := by
 obtain rfl : x3 = T.getD 3 undef := by simp [h3]
 obtain rfl : x7 = T.getD 7 undef := by simp [h7]
 obtain rfl : x8 = T.getD 8 undef := by simp [h8]
 obtain rfl : x9 = T.getD 9 undef := by simp [h9]
 exact ⟨fun k => T.getD k undef, (qa8 h).trans (by kernel_rfl)⟩
set_option maxHeartbeats 8000000 in
theorem qba (A : Option Addr) (c : Nat) (l : List S67) (dn : Bool) (fu fa : Int) (w : World) (hr : Kd.C k67 w A l.length l) (hc : l.length ≤ c) (hok : bI l = true) (hG : Gl w) :
  Calls Tryz.prog 68 #[.agg #[.slice A l.length c, .bool dn, .int .i64 fu, .int .i64 fa]] w fun e w' => ∃ A1 c1 A2 c2 Aq cq, e = .returned (.agg #[.slice A1 (bV (goF SU (aN l) (dP (aN l))).recs (dP (aN l))).length c1, .int .u64 ((dP (aN l)) : Int), .int .u64 ((goF SU (aN l) (dP (aN l))).next : Int), .string (pF (goF SU (aN l) (dP (aN l))).qN), .int .i64 (wW (goF SU (aN l) (dP (aN l))).qN), .slice A2 (goF SU (aN l) (dP (aN l))).gone.length c2])
   ∧ aC (Sep w w' [row k62 62 (.slice A1 (bV (goF SU (aN l) (dP (aN l))).recs (dP (aN l))).length c1) (bV (goF SU (aN l) (dP (aN l))).recs (dP (aN l))), row dX 139 (.slice Aq (aN l).length cq) (aN l)])
   ∧ (∀ W, Kd.C dX W Aq (aN l).length (aN l) → Kd.C dX W A2 (goF SU (aN l) (dP (aN l))).gone.length (goF SU (aN l) (dP (aN l))).gone) ∧ (goF SU (aN l) (dP (aN l))).gone.length ≤ c2 := by
 have HRp := aC.mk hr
 have HCp := aC.mk hc
 have HOK := aC.mk hok
 have HG := aC.mk hG
 have hlen : l.length ≤ 64 := jZ hok
 have HNM := aC.mk (fun x (hx : x ∈ l) => (show x.f0.size ≤ 65536 by have := ((jM l).1 hok).2.1 x hx; have h2 : x.f0.size ≤ 4096 := this.1; omega))
 clear hr hc hok hG
 obtain ⟨ps, hps⟩ : ∃ ps, ps = aN l := ⟨_, rfl⟩
 rw [← hps]
 have HPS := aC.mk hps
 have hpl : ps.length ≤ 64 := by rw [hps]; have := oM l; omega
 clear hps
 obtain ⟨n0, hn0⟩ : ∃ n0, n0 = dP ps := ⟨_, rfl⟩
 rw [← hn0]
 have HN0 := aC.mk hn0
 clear hn0
 obtain ⟨F, hF⟩ : ∃ F, F = goF SU ps n0 := ⟨_, rfl⟩
 rw [← hF]
 have HF := aC.mk hF
 clear hF
 have H := aC.mk (Sep.start w)
 have PA := aC.mk (fun A c w hr hc hG => HPS.out ▸ places_any A c l dn fu fa w hr hc hlen HNM.out hG)
 refine callsIn_wide.1 (callsIn_of_wp_marks (n := 0) Tryz.func68 rfl trivial (wpIn_wide.2 ?_))
 simp only [List.size_toArray, List.length_cons, List.length_nil, Tryz.ntmps68, Nat.reduceAdd, Nat.reduceSub, Array.replicate_succ, Array.replicate_zero, List.push_toArray, List.append_toArray, List.nil_append, List.cons_append]
 go_wp2_with (first
 |((with_reducible refine aU (N := 1) rfl ?_);
   refine bK rfl H (cs := [.slice A l.length c, .bool dn, .int .i64 fu, .int .i64 fa]) (t := 27) ?hr ?_;
   (case hr => first | (go_simp; done) | (go_simp; rfl));
   intro gd wd1 n_;
   simp only [Act.put, zA, zZ, zS];
   clear H;
   have H := n_;
   clear n_;
   have c_d := H.out.cell (g := gd) aP;
   have z_d := H.out.frozen (g := gd) aP)
 |((with_reducible refine aU (N := 2) rfl ?_);
   refine bK rfl H (cs := [.slice none 0 0, .int .u64 0, .int .u64 0, .string ⟨#[]⟩, .int .i64 0, .slice none 0 0]) (t := 129) ?hr ?_;
   (case hr => first | (go_simp; done) | (go_simp; rfl));
   intro gz wd2 n_;
   simp only [Act.put, zA, zZ, zS];
   clear H c_d z_d;
   have H := n_;
   clear n_;
   have c_z := H.out.cell (g := gz) aP;
   have z_z := H.out.frozen (g := gz) aP;
   have c_d := H.out.cell (g := gd) mem1;
   have z_d := H.out.frozen (g := gd) mem1)
 |((with_reducible refine aU (N := 3) rfl ?_);
   refine bK rfl H (cs := [.slice none 0 0, .int .u64 0, .int .u64 0, .string ⟨#[]⟩, .int .i64 0, .slice none 0 0]) (t := 129) ?hr ?_;
   (case hr => first | (go_simp; done) | (go_simp; rfl));
   intro gx wd3 n_;
   simp only [Act.put, zA, zZ, zS];
   clear H c_z z_z c_d z_d;
   have H := n_;
   clear n_;
   have c_x := H.out.cell (g := gx) aP;
   have z_x := H.out.frozen (g := gx) aP;
   have c_z := H.out.cell (g := gz) mem1;
   have z_z := H.out.frozen (g := gz) mem1;
   have c_d := H.out.cell (g := gd) mem2;
   have z_d := H.out.frozen (g := gd) mem2)
 |((with_reducible refine aV (t := 129) (p := 3) rfl ?_);
   refine bH (rs1 := [box gx [.slice none 0 0, .int .u64 1, .int .u64 1, .string ⟨#[]⟩, .int .i64 0, .slice none 0 0] 129, box gz [.slice none 0 0, .int .u64 0, .int .u64 0, .string ⟨#[]⟩, .int .i64 0, .slice none 0 0] 129, box gd [.slice A l.length c, .bool dn, .int .i64 fu, .int .i64 fa] 27]) rfl (t := 129) (p := 3) rfl rfl ?hr (H1 := (Sep.set0 (Sep.set0 (Sep.set0 (Sep.set0 (Sep.set0 (Sep.set0 H.out 0 (.slice none 0 0) rfl) 1 (.int .u64 1) rfl) 2 (.int .u64 1) rfl) 3 (.string ⟨#[]⟩) rfl) 4 (.int .i64 0) rfl) 5 (.slice none 0 0) rfl)) ?_;
   (case hr => first | (go_simp; done) | (go_simp; rfl));
   intro wd4 n_;
   clear H c_x z_x c_z z_z c_d z_d;
   have H := n_;
   clear n_;
   have c_x := H.out.cell (g := gx) aP;
   have z_x := H.out.frozen (g := gx) aP;
   have c_z := H.out.cell (g := gz) mem1;
   have z_z := H.out.frozen (g := gz) mem1;
   have c_d := H.out.cell (g := gd) mem2;
   have z_d := H.out.frozen (g := gd) mem2)
 |fail)
 refine ((PA.out A c _ (H.out.came HRp.out) HCp.out (HG.out.below H.out.below)).mono ?_)
 rintro e wd5 ⟨v_, rfl, ho_, hb_⟩
 obtain ⟨Aq, cq, eo_⟩ := Kd.dZ ho_
 subst eo_
 have n_ : aC (Sep w wd5 [row dX 139 (.slice Aq (ps).length cq) ps, box gx [.slice none 0 0, .int .u64 1, .int .u64 1, .string ⟨#[]⟩, .int .i64 0, .slice none 0 0] 129, box gz [.slice none 0 0, .int .u64 0, .int .u64 0, .string ⟨#[]⟩, .int .i64 0, .slice none 0 0] 129, box gd [.slice A l.length c, .bool dn, .int .i64 fu, .int .i64 fa] 27]) := ⟨Sep.jQ H.out hb_ ho_ uK⟩
 clear H c_x z_x c_z z_z c_d z_d
 have H := n_
 clear n_
 have c_x := H.out.cell (g := gx) mem1
 have z_x := H.out.frozen (g := gx) mem1
 have c_z := H.out.cell (g := gz) mem2
 have z_z := H.out.frozen (g := gz) mem2
 have c_d := H.out.cell (g := gd) mem3
 have z_d := H.out.frozen (g := gd) mem3
 clear ho_ hb_
 by_cases hz : ps.length = 0
 ·
  have hp0 : ps = [] := List.length_eq_zero_iff.1 hz
  have hn1 : n0 = 1 := by rw [HN0.out, hp0]; rfl
  have HFE : aC (F = ⟨[], n0, none, []⟩) := ⟨by rw [HF.out, hp0]; rfl⟩
  have hz1 : ¬ (0 : Int) < (ps.length : Int) := by omega
  clear hz hp0
  rw [show (1 : Int) = (n0 : Int) by omega] at H
  clear hn1
  clear c_x z_x c_z z_z c_d z_d
  have c_x := H.out.cell (g := gx) mem1
  have c_z := H.out.cell (g := gz) mem2
  have z_z := H.out.frozen (g := gz) mem2
  have c_d := H.out.cell (g := gd) mem3
  go_wp2_with fail
  refine wp_loop (fun a' w' => a' = _ ∧ w' = _) (fun _ _ => 0) ⟨rfl, rfl⟩ ?_
  rintro a' w' ⟨rfl, rfl⟩
  go_wp2_with (first
 |((with_reducible refine aV (t := 129) (p := 2) rfl ?_);
   refine bH (rs1 := [row dX 139 (.slice Aq (ps).length cq) ps, box gx [.slice none 0 0, .int .u64 (n0 : Int), .int .u64 (n0 : Int), .string ⟨#[]⟩, .int .i64 0, .slice none 0 0] 129, box gz [.slice none 0 0, .int .u64 (n0 : Int), .int .u64 (n0 : Int), .string ⟨#[]⟩, .int .i64 0, .slice none 0 0] 129, box gd [.slice A l.length c, .bool dn, .int .i64 fu, .int .i64 fa] 27]) rfl (t := 129) (p := 2) rfl rfl ?hr (H1 := (Sep.set2 (Sep.set2 (Sep.set2 (Sep.set2 (Sep.set2 (Sep.set2 H.out 0 (.slice none 0 0) rfl) 1 (.int .u64 (n0 : Int)) rfl) 2 (.int .u64 (n0 : Int)) rfl) 3 (.string ⟨#[]⟩) rfl) 4 (.int .i64 0) rfl) 5 (.slice none 0 0) rfl)) ?_;
   (case hr => first | (go_simp; done) | (go_simp; rfl));
   intro wd6 n_;
   clear H c_x c_z z_z c_d;
   have H := n_;
   clear n_;
   have c_x := H.out.cell (g := gx) mem1;
   have c_z := H.out.cell (g := gz) mem2;
   have z_z := H.out.frozen (g := gz) mem2;
   have c_d := H.out.cell (g := gd) mem3)
 |fail)
  obtain rfl := HFE.out
  exact wX (mk := []) (A1 := none) (c1 := 0) (A2 := none) (c2 := 0) (ps := ps) rfl (Sep.iY (Sep.iW (Sep.iW (Sep.drop2 (Sep.lC (Sep.eU H.out)))))) (fun w' h => Kd.PK _ _) (Nat.le_refl _)
 ·
  obtain ⟨p, hp⟩ : ∃ p, ps[0]? = some p := ⟨_, List.getElem?_eq_getElem (by omega)⟩
  have hn1 : n0 = p.2 := by
   rw [HN0.out]
   cases ps with
   | nil => simp at hz
   | cons p2 r =>
    simp at hp
    rw [← hp]
    rfl
  have HN1 := aC.mk hn1
  clear hn1
  obtain ⟨aq, e1⟩ := D9 (H.out.reads aP).2.2 (by omega)
  subst e1
  obtain ⟨h0, h1, h2, h3⟩ := sV (H.out.reads aP).2.2 hp
  have ea : aq.add 0 = aq := by simp [Addr.add]
  simp only [Nat.zero_mul, ea] at h0 h1 h2 h3
  clear hp ea
  have hq0 : (0 : Int) < (ps.length : Int) := by omega
  go_upto_region 4 with fail
  go_region
  refine qI (rs := [row dX 139 (.slice (some aq) (ps).length cq) ps, box gx [.slice none 0 0, .int .u64 (p.2 : Int), .int .u64 (p.2 : Int), .string ⟨#[]⟩, .int .i64 0, .slice none 0 0] 129, box gz [.slice none 0 0, .int .u64 0, .int .u64 0, .string ⟨#[]⟩, .int .i64 0, .slice none 0 0] 129, box gd [.slice A l.length c, .bool dn, .int .i64 fu, .int .i64 fa] 27]) (Sep.drew (Sep.set1 (Sep.set1 H.out 1 (.int .u64 (p.2 : Int)) rfl) 2 (.int .u64 (p.2 : Int)) rfl)) ?_
  intro wd7 n_
  have n1_ : aC (Sep w wd7 [row dX 139 (.slice (some aq) (ps).length cq) ps, box gx [.slice none 0 0, .int .u64 (n0 : Int), .int .u64 (n0 : Int), .string ⟨#[]⟩, .int .i64 0, .slice none 0 0] 129, box gz [.slice none 0 0, .int .u64 0, .int .u64 0, .string ⟨#[]⟩, .int .i64 0, .slice none 0 0] 129, box gd [.slice A l.length c, .bool dn, .int .i64 fu, .int .i64 fa] 27]) := by rw [HN1.out]; exact n_
  clear n_ h0 h1 h2 h3
  have n_ := n1_
  clear n1_
  clear H c_x z_x c_z z_z c_d z_d
  have H := n_
  clear n_
  have c_x := H.out.cell (g := gx) mem1
  have z_x := H.out.frozen (g := gx) mem1
  have c_z := H.out.cell (g := gz) mem2
  have z_z := H.out.frozen (g := gz) mem2
  have c_d := H.out.cell (g := gd) mem3
  have z_d := H.out.frozen (g := gd) mem3
  go_wp2_with fail
  refine wp_loop (fun a wr => ∃ (T : Array Value) (i : Nat) (ds : List Bytes) (m : Nat) (t : Option (Pl × Nat)) (mk : List Nat) (A1 : Option Addr) (c1 : Nat), a = { tmps := T, defers := mk.map TD } ∧ T.size = 80 ∧ T[2]? = some (.pointer (some ⟨gz, 0, none⟩)) ∧ T[3]? = some (.pointer (some ⟨gx, 0, none⟩)) ∧ T[4]? = some (.slice (some aq) ps.length cq) ∧ T[26]? = some (.slice (some aq) ps.length cq) ∧ T[27]? = some (.int .i64 (ps.length : Int)) ∧ T[28]? = some (.int .i64 (i : Int)) ∧ i ≤ ps.length ∧ ds.length ≤ i * 262144 ∧ aC (m = n0 + ds.length) ∧ aC (FI F ps i ds m t) ∧ aC (Sep w wr (box gx [.slice A1 (bV ds n0).length c1, .int .u64 (n0 : Int), .int .u64 (m : Int), .string (pF t), .int .i64 (wW t), .slice none 0 0] 129 :: row k62 62 (.slice A1 (bV ds n0).length c1) (bV ds n0) :: box gz [.slice none 0 0, .int .u64 0, .int .u64 0, .string ⟨#[]⟩, .int .i64 0, .slice none 0 0] 129 :: row dX 139 (.slice (some aq) ps.length cq) ps :: marks mk))) (fun a _ => ps.length - (intOf (a.tmps.getD 28 undef)).toNat) ?_ ?_
  ·refine ⟨_, 0, [], n0, none, [], none, 0, rfl, rfl, rfl, rfl, rfl, rfl, rfl, rfl, by omega, by simp, ⟨by simp⟩, ⟨by rw [HF.out]; exact qa6 _ _⟩, ⟨?_⟩⟩
   exact (Sep.oZ (Sep.iY (Sep.oZ (Sep.iW (Sep.lC (Sep.eU H.out))))))
  ·clear H c_x z_x c_z z_z c_d z_d
   rintro a wr ⟨T, i, ds, m, t, mk, A1, c1, rfl, hT, k2, k3, k4, k26, k27, k28, hi, hdl, HM, HFI, H⟩
   obtain ⟨u, hTu⟩ := NI hT k2 k3 k4 k26 k27 k28
   subst hTu
   clear hT k2 k3 k4 k26 k27 k28
   by_cases hil : i < ps.length
   ·
    obtain ⟨p2, hp2⟩ : ∃ p2, ps[i]? = some p2 := ⟨_, List.getElem?_eq_getElem hil⟩
    have c_x := H.out.cell (g := gx) aP
    have z_x := H.out.frozen (g := gx) aP
    obtain ⟨h0, h1, h2, h3⟩ := sV (H.out.reads mem3).2.2 hp2
    have HSZ := aC.mk (oV HOK.out HPS.out (List.mem_of_getElem? hp2)).1
    have HPM := aC.mk (oV HOK.out HPS.out (List.mem_of_getElem? hp2)).2.1
    have hi0 : (0 : Int) ≤ (i : Int) := by omega
    have hi1 : (i : Int) < (ps.length : Int) := by omega
    clear c_x z_x
    have c_x := H.out.cell (g := gx) aP
    have z_x := H.out.frozen (g := gx) aP
    have c_z := H.out.cell (g := gz) mem2
    cases t with
    | none =>
     have H2 : aC (Sep w wr (box gx [.slice A1 (bV ds n0).length c1, .int .u64 (n0 : Int), .int .u64 (m : Int), .string ⟨#[]⟩, .int .i64 0, .slice none 0 0] 129 :: row k62 62 (.slice A1 (bV ds n0).length c1) (bV ds n0) :: box gz [.slice none 0 0, .int .u64 0, .int .u64 0, .string ⟨#[]⟩, .int .i64 0, .slice none 0 0] 129 :: row dX 139 (.slice (some aq) (ps).length cq) ps :: marks mk)) := H
     clear H c_x z_x c_z
     have H := H2
     clear H2
     have c_x := H.out.cell (g := gx) aP
     have z_x := H.out.frozen (g := gx) aP
     have c_z := H.out.cell (g := gz) mem2
     by_cases hne : p2.2 = m
     ·
      subst hne
      go_wp2_with (first
 |((with_reducible refine aU (N := 6) rfl ?_);
   refine bK rfl H (cs := [.string ⟨#[]⟩, .string ⟨#[]⟩, .int .i64 0, .int .u64 0]) (t := 139) ?hr ?_;
   (case hr => first | (go_simp; done) | (go_simp; rfl));
   intro gp wd8 n_;
   simp only [Act.put, zA, zZ, zS];
   clear H c_x z_x c_z;
   have H := n_;
   clear n_;
   have c_p := H.out.cell (g := gp) aP;
   have z_p := H.out.frozen (g := gp) aP;
   have c_x := H.out.cell (g := gx) mem1;
   have z_x := H.out.frozen (g := gx) mem1;
   have c_z := H.out.cell (g := gz) mem3)
 |((with_reducible refine aV (t := 139) (p := 6) rfl ?_);
   refine bH (rs1 := (box gp [.string p2.1.f0, .string p2.1.f1, .int .i64 p2.1.f2, .int .u64 (p2.2 : Int)] 139 :: box gx [.slice A1 (bV ds n0).length c1, .int .u64 (n0 : Int), .int .u64 (p2.2 : Int), .string ⟨#[]⟩, .int .i64 0, .slice none 0 0] 129 :: row k62 62 (.slice A1 (bV ds n0).length c1) (bV ds n0) :: box gz [.slice none 0 0, .int .u64 0, .int .u64 0, .string ⟨#[]⟩, .int .i64 0, .slice none 0 0] 129 :: row dX 139 (.slice (some aq) (ps).length cq) ps :: marks mk)) rfl (t := 139) (p := 6) rfl rfl ?hr (H1 := (Sep.set0 (Sep.set0 (Sep.set0 (Sep.set0 H.out 0 (.string p2.1.f0) rfl) 1 (.string p2.1.f1) rfl) 2 (.int .i64 p2.1.f2) rfl) 3 (.int .u64 (p2.2 : Int)) rfl)) ?_;
   (case hr => first | (go_simp; done) | (go_simp; rfl));
   intro wd9 n_;
   clear H c_p z_p c_x z_x c_z;
   have H := n_;
   clear n_;
   have c_p := H.out.cell (g := gp) aP;
   have z_p := H.out.frozen (g := gp) aP;
   have c_x := H.out.cell (g := gx) mem1;
   have z_x := H.out.frozen (g := gx) mem1;
   have c_z := H.out.cell (g := gz) mem3;
   clear h0 h1 h2 h3)
 |((with_reducible refine aU (N := 7) rfl ?_);
   refine bK rfl H (cs := [.int .i64 0]) (t := 3) ?hr ?_;
   (case hr => first | (go_simp; done) | (go_simp; rfl));
   intro ge ED n_;
   simp only [Act.put, zA, zZ, zS];
   clear H c_p z_p c_x z_x c_z;
   have H := n_;
   clear n_;
   have c_e := H.out.cell (g := ge) aP;
   have z_e := H.out.frozen (g := ge) aP;
   have c_p := H.out.cell (g := gp) mem1;
   have z_p := H.out.frozen (g := gp) mem1;
   have c_x := H.out.cell (g := gx) mem2;
   have z_x := H.out.frozen (g := gx) mem2;
   have c_z := H.out.cell (g := gz) bT)
 |((with_reducible refine aV (t := 3) (p := 7) rfl ?_);
   refine bH (rs1 := (box ge [.int .i64 0] 3 :: box gp [.string p2.1.f0, .string p2.1.f1, .int .i64 p2.1.f2, .int .u64 (p2.2 : Int)] 139 :: box gx [.slice A1 (bV ds n0).length c1, .int .u64 (n0 : Int), .int .u64 (p2.2 : Int), .string ⟨#[]⟩, .int .i64 0, .slice none 0 0] 129 :: row k62 62 (.slice A1 (bV ds n0).length c1) (bV ds n0) :: box gz [.slice none 0 0, .int .u64 0, .int .u64 0, .string ⟨#[]⟩, .int .i64 0, .slice none 0 0] 129 :: row dX 139 (.slice (some aq) (ps).length cq) ps :: marks mk)) rfl (t := 3) (p := 7) rfl rfl ?hr (H1 := (Sep.set0 H.out 0 (.int .i64 0) rfl)) ?_;
   (case hr => first | (go_simp; done) | (go_simp; rfl));
   intro NJ n_;
   clear H c_e z_e c_p z_p c_x z_x c_z;
   have H := n_;
   clear n_;
   have c_e := H.out.cell (g := ge) aP;
   have z_e := H.out.frozen (g := ge) aP;
   have c_p := H.out.cell (g := gp) mem1;
   have z_p := H.out.frozen (g := gp) mem1;
   have c_x := H.out.cell (g := gx) mem2;
   have z_x := H.out.frozen (g := gx) mem2;
   have c_z := H.out.cell (g := gz) bT)
 |fail)
      refine ((TN w NJ _ _ _ H).mono ?_)
      rintro e_ JQ ⟨gs, gq, rfl, n_⟩
      clear c_e z_e c_p z_p c_x z_x c_z H
      have H := n_
      clear n_
      go_wp2_with fail
      have HIT := aC.mk (qca w p2.1.f1 p2.2 gs gq HSZ.out HPM.out)
      obtain ⟨xs, hxs⟩ : ∃ xs, xs = lY p2.1.f1 0 p2.2 := ⟨_, rfl⟩
      rw [← hxs] at HIT
      have HXS := aC.mk hxs
      clear hxs
      refine ZB (b := w) (gf := 159) (lb := #[.pointer (some ⟨gs, 0, none⟩), .pointer (some ⟨gq, 0, none⟩)]) encR xs (QU gs gq p2.1.f1 p2.2) (fun pre rs => ∃ A2 c2, rs = (box ge [.int .i64 (endOf 0 pre : Int)] 3 :: box gp [.string p2.1.f0, .string p2.1.f1, .int .i64 p2.1.f2, .int .u64 (p2.2 : Int)] 139 :: box gx [.slice A2 (bV ds n0 ++ pre.map jE).length c2, .int .u64 (n0 : Int), .int .u64 ((p2.2 + pre.length : Nat) : Int), .string ⟨#[]⟩, .int .i64 0, .slice none 0 0] 129 :: row k62 62 (.slice A2 (bV ds n0 ++ pre.map jE).length c2) (bV ds n0 ++ pre.map jE) :: box gz [.slice none 0 0, .int .u64 0, .int .u64 0, .string ⟨#[]⟩, .int .i64 0, .slice none 0 0] 129 :: row dX 139 (.slice (some aq) ps.length cq) ps :: marks mk))
       (fun pre x a1 ms => ∃ (T : Array Value) (gr : Nat) (A2 : Option Addr) (c2 : Nat), a1 = { tmps := T, defers := [] } ∧ T.size = 80 ∧ T[3]? = some (.pointer (some ⟨gx, 0, none⟩)) ∧ T[7]? = some (.pointer (some ⟨ge, 0, none⟩)) ∧ T[8]? = some (.int .i64 (x.1 : Int)) ∧ T[9]? = some (.pointer (some ⟨gr, 0, none⟩)) ∧ ms = box gr [.int .u64 (x.2.1 : Int), .string x.2.2] 62 :: (box ge [.int .i64 (endOf 0 pre : Int)] 3 :: box gp [.string p2.1.f0, .string p2.1.f1, .int .i64 p2.1.f2, .int .u64 (p2.2 : Int)] 139 :: box gx [.slice A2 (bV ds n0 ++ pre.map jE).length c2, .int .u64 (n0 : Int), .int .u64 ((p2.2 + pre.length : Nat) : Int), .string ⟨#[]⟩, .int .i64 0, .slice none 0 0] 129 :: row k62 62 (.slice A2 (bV ds n0 ++ pre.map jE).length c2) (bV ds n0 ++ pre.map jE) :: box gz [.slice none 0 0, .int .u64 0, .int .u64 0, .string ⟨#[]⟩, .int .i64 0, .slice none 0 0] 129 :: row dX 139 (.slice (some aq) ps.length cq) ps :: marks mk)) (box ge [.int .i64 0] 3 :: box gp [.string p2.1.f0, .string p2.1.f1, .int .i64 p2.1.f2, .int .u64 (p2.2 : Int)] 139 :: box gx [.slice A1 (bV ds n0).length c1, .int .u64 (n0 : Int), .int .u64 (p2.2 : Int), .string ⟨#[]⟩, .int .i64 0, .slice none 0 0] 129 :: row k62 62 (.slice A1 (bV ds n0).length c1) (bV ds n0) :: box gz [.slice none 0 0, .int .u64 0, .int .u64 0, .string ⟨#[]⟩, .int .i64 0, .slice none 0 0] 129 :: row dX 139 (.slice (some aq) (ps).length cq) ps :: marks mk) (by rfl) (fun args w => by simp [go_sem]) (fun x => rfl) HIT.out ⟨A1, c1, ?_⟩ H ?_ ?_ ?_
      ·simp [endOf]
      ·clear H
       intro l_ S pre x post W1 rs K_ hx hR H HK
       obtain ⟨A2, c2, rfl⟩ := hR
       have H1 : aC (Sep w W1 (box ge [.int .i64 (endOf 0 pre : Int)] 3 :: box gp [.string p2.1.f0, .string p2.1.f1, .int .i64 p2.1.f2, .int .u64 (p2.2 : Int)] 139 :: box gx [.slice A2 (bV ds n0 ++ pre.map jE).length c2, .int .u64 (n0 : Int), .int .u64 ((p2.2 + pre.length : Nat) : Int), .string ⟨#[]⟩, .int .i64 0, .slice none 0 0] 129 :: row k62 62 (.slice A2 (bV ds n0 ++ pre.map jE).length c2) (bV ds n0 ++ pre.map jE) :: box gz [.slice none 0 0, .int .u64 0, .int .u64 0, .string ⟨#[]⟩, .int .i64 0, .slice none 0 0] 129 :: row dX 139 (.slice (some aq) ps.length cq) ps :: (marks mk ++ S))) := H
       clear H
       have H := H1
       clear H1
       have HX := aC.mk hx
       clear hx
       have c_e := H.out.cell (g := ge) aP
       have c_x := H.out.cell (g := gx) mem2
       simp only [encR, List.zip_toArray, List.zip_cons_cons, List.zip_nil_right, List.foldl_toArray', List.foldl_cons, List.foldl_nil, zA, zZ, zS]
       gi_wp2_with (first
 |((with_reducible refine TK (N := 9) rfl ?_);
   refine ZH rfl rfl (fun c e => by cases e) H (cs := [.int .u64 0, .string ⟨#[]⟩]) (t := 62) ?hr ?_;
   (case hr => first | (go_simp; done) | (go_simp; rfl));
   intro gr JR n_;
   simp only [Act.put, zA, zZ, zS];
   clear H c_e c_x;
   have H := n_;
   clear n_;
   have c_r := H.out.cell (g := gr) aP;
   have z_r := H.out.frozen (g := gr) aP;
   have c_e := H.out.cell (g := ge) mem1;
   have c_x := H.out.cell (g := gx) mem3)
 |((with_reducible refine rF (t := 62) (q := 9) rfl ?_);
   refine xX (rs1 := (box gr [.int .u64 (x.2.1 : Int), .string x.2.2] 62 :: box ge [.int .i64 (endOf 0 pre : Int)] 3 :: box gp [.string p2.1.f0, .string p2.1.f1, .int .i64 p2.1.f2, .int .u64 (p2.2 : Int)] 139 :: box gx [.slice A2 (bV ds n0 ++ pre.map jE).length c2, .int .u64 (n0 : Int), .int .u64 ((p2.2 + pre.length : Nat) : Int), .string ⟨#[]⟩, .int .i64 0, .slice none 0 0] 129 :: row k62 62 (.slice A2 ((bV ds n0 ++ pre.map jE)).length c2) ((bV ds n0 ++ pre.map jE)) :: box gz [.slice none 0 0, .int .u64 0, .int .u64 0, .string ⟨#[]⟩, .int .i64 0, .slice none 0 0] 129 :: row dX 139 (.slice (some aq) (ps).length cq) ps :: (marks mk ++ S))) rfl (t := 62) (q := 9) rfl rfl rfl ?hr (H1 := (Sep.set0 (Sep.set0 H.out 0 (.int .u64 (x.2.1 : Int)) rfl) 1 (.string x.2.2) rfl)) ?_;
   (case hr => first | (go_simp; done) | (go_simp; rfl));
   intro TQ n_;
   clear H c_r z_r c_e c_x;
   have H := n_;
   clear n_;
   have c_r := H.out.cell (g := gr) aP;
   have z_r := H.out.frozen (g := gr) aP;
   have c_e := H.out.cell (g := ge) mem1;
   have c_x := H.out.cell (g := gx) mem3)
 |fail)
       exact HK _ _ _ ⟨_, gr, A2, c2, rfl, rfl, rfl, rfl, rfl, rfl, rfl⟩ H
      ·clear H
       intro l_ S pre x post a1 W2 ms hx hM H
       obtain ⟨T, gr, A2, c2, rfl, hT, k3, k7, k8, k9, rfl⟩ := hM
       have H1 : aC (Sep w W2 (box gr [.int .u64 (x.2.1 : Int), .string x.2.2] 62 :: (box ge [.int .i64 (endOf 0 pre : Int)] 3 :: box gp [.string p2.1.f0, .string p2.1.f1, .int .i64 p2.1.f2, .int .u64 (p2.2 : Int)] 139 :: box gx [.slice A2 (bV ds n0 ++ pre.map jE).length c2, .int .u64 (n0 : Int), .int .u64 ((p2.2 + pre.length : Nat) : Int), .string ⟨#[]⟩, .int .i64 0, .slice none 0 0] 129 :: row k62 62 (.slice A2 (bV ds n0 ++ pre.map jE).length c2) (bV ds n0 ++ pre.map jE) :: box gz [.slice none 0 0, .int .u64 0, .int .u64 0, .string ⟨#[]⟩, .int .i64 0, .slice none 0 0] 129 :: row dX 139 (.slice (some aq) ps.length cq) ps :: (marks mk ++ S)))) := H
       clear H
       have H := H1
       clear H1
       have HX := aC.mk hx
       clear hx
       obtain ⟨u2, hTu⟩ := KQ hT k3 k7 k8 k9
       subst hTu
       clear hT k3 k7 k8 k9
       obtain ⟨rl, hrl⟩ : ∃ rl, rl = (bV ds n0 ++ pre.map jE) := ⟨_, rfl⟩
       rw [← hrl] at H
       obtain ⟨mm, hmm⟩ : ∃ mm, mm = p2.2 + pre.length := ⟨_, rfl⟩
       rw [← hmm] at H
       have HRL := aC.mk hrl
       have HMM := aC.mk hmm
       clear hrl hmm
       have hpx : pre.length + 1 ≤ 262144 := by
        have h1 := QV p2.1.f1 0 p2.2
        rw [← HXS.out, HX.out, List.length_append, List.length_cons] at h1
        have := HSZ.out
        omega
       have HOL : aC (rl.length ≤ 16777216 + 262144) := ⟨by rw [HRL.out, List.length_append, qO, List.length_map]; omega⟩
       have hm3 : mm < 9223372036854775807 := by
        have := HPM.out
        unfold most at this
        rw [HMM.out]
        omega
       clear hpx
       have c_r := H.out.cell (g := gr) aP
       have c_e := H.out.cell (g := ge) mem1
       have z_e := H.out.frozen (g := ge) mem1
       have c_x := H.out.cell (g := gx) mem3
       have z_x := H.out.frozen (g := gx) mem3
       gi_wp2_with (first
 |((with_reducible refine JL (bf := .append) (xs := #[.tmp 56, .tmp 58]) rfl ?_); gi_at_builtin;
   refine TL k62 qa4 rfl (.tmp 56) (.tmp 58) 54 62 (.agg #[.int .u64 0, .string ⟨#[]⟩]) 24 rfl Tryz.underlying54 qdn rfl (by decide) (by omega) (.slice A2 (rl).length c2) _ ((jE x)) [.int .u64 (x.2.1 : Int), .string x.2.2] ?hs ?hx ?hp rfl H ?hl ?_;
   (case hs => first | rfl | (go_simp; done) | (simp; rfl));
   (case hx => first | (go_simp; done) | (go_simp; rfl));
   (case hp => exact VP _ _ _ _);
   (case hl => (have := HOL.out; omega));
   intro Ao2 co2 KR n_;
   clear H c_r c_e z_e c_x z_x;
   have H := n_;
   clear n_;
   have c_r := H.out.cell (g := gr) aP;
   have c_e := H.out.cell (g := ge) mem1;
   have z_e := H.out.frozen (g := ge) mem1;
   have c_x := H.out.cell (g := gx) mem3;
   have z_x := H.out.frozen (g := gx) mem3)
 |((with_reducible refine rF (t := 54) (q := 60) rfl ?_);
   refine xX (rs1 := (box gr [.int .u64 (x.2.1 : Int), .string x.2.2] 62 :: box ge [.int .i64 (endOf 0 pre : Int)] 3 :: box gp [.string p2.1.f0, .string p2.1.f1, .int .i64 p2.1.f2, .int .u64 (p2.2 : Int)] 139 :: box gx [.slice Ao2 ((rl ++ [(jE x)])).length co2, .int .u64 (n0 : Int), .int .u64 (mm : Int), .string ⟨#[]⟩, .int .i64 0, .slice none 0 0] 129 :: row k62 62 (.slice Ao2 ((rl ++ [(jE x)])).length co2) ((rl ++ [(jE x)])) :: box gz [.slice none 0 0, .int .u64 0, .int .u64 0, .string ⟨#[]⟩, .int .i64 0, .slice none 0 0] 129 :: row dX 139 (.slice (some aq) (ps).length cq) ps :: (marks mk ++ S))) rfl (t := 54) (q := 60) rfl rfl rfl ?hr (H1 := (Sep.dY H.out 0 (.slice Ao2 ((rl ++ [(jE x)])).length co2) rfl)) ?_;
   (case hr => first | (go_simp; done) | (go_simp; rfl));
   intro ZL n_;
   clear H c_r c_e z_e c_x z_x;
   have H := n_;
   clear n_;
   have c_r := H.out.cell (g := gr) aP;
   have c_e := H.out.cell (g := ge) mem1;
   have z_e := H.out.frozen (g := ge) mem1;
   have c_x := H.out.cell (g := gx) mem3;
   have z_x := H.out.frozen (g := gx) mem3)
 |((with_reducible refine rF (t := 3) (q := 7) rfl ?_);
   refine xX (rs1 := (box gr [.int .u64 (x.2.1 : Int), .string x.2.2] 62 :: box ge [.int .i64 (x.1 : Int)] 3 :: box gp [.string p2.1.f0, .string p2.1.f1, .int .i64 p2.1.f2, .int .u64 (p2.2 : Int)] 139 :: box gx [.slice Ao2 ((rl ++ [(jE x)])).length co2, .int .u64 (n0 : Int), .int .u64 (mm : Int), .string ⟨#[]⟩, .int .i64 0, .slice none 0 0] 129 :: row k62 62 (.slice Ao2 ((rl ++ [(jE x)])).length co2) ((rl ++ [(jE x)])) :: box gz [.slice none 0 0, .int .u64 0, .int .u64 0, .string ⟨#[]⟩, .int .i64 0, .slice none 0 0] 129 :: row dX 139 (.slice (some aq) (ps).length cq) ps :: (marks mk ++ S))) rfl (t := 3) (q := 7) rfl rfl rfl ?hr (H1 := (Sep.set1 H.out 0 (.int .i64 (x.1 : Int)) rfl)) ?_;
   (case hr => first | (go_simp; done) | (go_simp; rfl));
   intro qce n_;
   clear H c_r c_e z_e c_x z_x;
   have H := n_;
   clear n_;
   have c_r := H.out.cell (g := gr) aP;
   have c_e := H.out.cell (g := ge) mem1;
   have z_e := H.out.frozen (g := ge) mem1;
   have c_x := H.out.cell (g := gx) mem3;
   have z_x := H.out.frozen (g := gx) mem3)
 |((with_reducible refine rF (t := 28) (q := 65) rfl ?_);
   refine xX (rs1 := (box gr [.int .u64 (x.2.1 : Int), .string x.2.2] 62 :: box ge [.int .i64 (x.1 : Int)] 3 :: box gp [.string p2.1.f0, .string p2.1.f1, .int .i64 p2.1.f2, .int .u64 (p2.2 : Int)] 139 :: box gx [.slice Ao2 ((rl ++ [(jE x)])).length co2, .int .u64 (n0 : Int), .int .u64 ((mm : Int) + 1), .string ⟨#[]⟩, .int .i64 0, .slice none 0 0] 129 :: row k62 62 (.slice Ao2 ((rl ++ [(jE x)])).length co2) ((rl ++ [(jE x)])) :: box gz [.slice none 0 0, .int .u64 0, .int .u64 0, .string ⟨#[]⟩, .int .i64 0, .slice none 0 0] 129 :: row dX 139 (.slice (some aq) (ps).length cq) ps :: (marks mk ++ S))) rfl (t := 28) (q := 65) rfl rfl rfl ?hr (H1 := (Sep.dY H.out 2 (.int .u64 ((mm : Int) + 1)) rfl)) ?_;
   (case hr => first | (go_simp; done) | (go_simp; rfl));
   intro qcf n_;
   clear H c_r c_e z_e c_x z_x;
   have H := n_;
   clear n_;
   have c_r := H.out.cell (g := gr) aP;
   have c_e := H.out.cell (g := ge) mem1;
   have z_e := H.out.frozen (g := ge) mem1;
   have c_x := H.out.cell (g := gx) mem3;
   have z_x := H.out.frozen (g := gx) mem3)
 |fail)
       have e1 : bV ds n0 ++ (pre ++ [x]).map jE = rl ++ [jE x] := by
        rw [HRL.out, List.map_append, ← List.append_assoc]
        rfl
       have e2 : ((p2.2 + (pre ++ [x]).length : Nat) : Int) = (mm : Int) + 1 := by
        rw [HMM.out, List.length_append, List.length_singleton]
        omega
       refine ⟨_, ⟨Ao2, co2, rfl⟩, ⟨?_⟩⟩
       rw [e1, e2, TP]
       exact Sep.eG H.out
      ·clear H
       intro D W2 rs hR H
       obtain ⟨A2, c2, rfl⟩ := hR
       have e1 := congrArg (·.map jE) HXS.out
       have e2 : endOf 0 xs = (readB SU (byt p2.1.f1) p2.2).2 := by rw [HXS.out]; exact qa5 _ _
       have e3 := congrArg List.length HXS.out
       rw [lY, List.drop_zero] at e1 e3
       simp only [LM] at e1
       rw [vK] at e3
       obtain ⟨d1, hd1⟩ : ∃ d1, d1 = (readB SU (byt p2.1.f1) p2.2).1 := ⟨_, rfl⟩
       obtain ⟨en, hen⟩ : ∃ en, en = (readB SU (byt p2.1.f1) p2.2).2 := ⟨_, rfl⟩
       rw [← hd1] at e1 e3
       rw [← hen] at e2
       have e4 : bV ds n0 ++ xs.map jE = bV (ds ++ d1) n0 := by rw [sW, e1, ← HM.out]
       have HFN := aC.mk (qcb HFI.out (LP hp2) rfl)
       rw [← hd1, ← hen] at HFN
       have qip : d1.length ≤ 262144 := by
        have h1 := QV p2.1.f1 0 p2.2
        rw [← HXS.out, e3] at h1
        have := HSZ.out
        omega
       have qiq : en ≤ 262144 := by
        have h1 := qcc p2.1.f1 p2.2
        rw [← hen] at h1
        have := HSZ.out
        omega
       clear hd1 hen
       have H0 := H.out.perm List.perm_append_comm
       rw [e4, e2, e3] at H0
       have H1 : aC (Sep w W2 (box gq [.int .u64 ((p2.2 + xs.length : Nat) : Int)] 28 :: box gs [.string p2.1.f1] 9 :: thing D (.deferred (some [])) :: box ge [.int .i64 (en : Int)] 3 :: box gp [.string p2.1.f0, .string p2.1.f1, .int .i64 p2.1.f2, .int .u64 (p2.2 : Int)] 139 :: box gx [.slice A2 (bV (ds ++ d1) n0).length c2, .int .u64 (n0 : Int), .int .u64 ((p2.2 + d1.length : Nat) : Int), .string ⟨#[]⟩, .int .i64 0, .slice none 0 0] 129 :: row k62 62 (.slice A2 (bV (ds ++ d1) n0).length c2) (bV (ds ++ d1) n0) :: box gz [.slice none 0 0, .int .u64 0, .int .u64 0, .string ⟨#[]⟩, .int .i64 0, .slice none 0 0] 129 :: row dX 139 (.slice (some aq) (ps).length cq) ps :: marks mk)) := ⟨H0⟩
       clear H H0 e1 e2 e3 e4
       have H := H1
       clear H1
       have c_e := H.out.cell (g := ge) mem3
       have c_p := H.out.cell (g := gp) bT
       have c_x := H.out.cell (g := gx) dM
       have z_x := H.out.frozen (g := gx) dM
       have hsz : p2.1.f1.size ≤ 262144 := HSZ.out
       by_cases hto : en < p2.1.f1.size
       ·
        rw [if_pos hto] at HFN
        go_upto_region 18 with fail
        go_region
        refine qI (rs := (box gq [.int .u64 ((p2.2 + xs.length : Nat) : Int)] 28 :: box gs [.string p2.1.f1] 9 :: thing D (.deferred (some [])) :: box ge [.int .i64 (en : Int)] 3 :: box gp [.string p2.1.f0, .string p2.1.f1, .int .i64 p2.1.f2, .int .u64 (p2.2 : Int)] 139 :: box gx [.slice A2 (bV (ds ++ d1) n0).length c2, .int .u64 (n0 : Int), .int .u64 ((p2.2 + d1.length : Nat) : Int), .string p2.1.f0, .int .i64 (en : Int), .slice none 0 0] 129 :: row k62 62 (.slice A2 (bV (ds ++ d1) n0).length c2) (bV (ds ++ d1) n0) :: box gz [.slice none 0 0, .int .u64 0, .int .u64 0, .string ⟨#[]⟩, .int .i64 0, .slice none 0 0] 129 :: row dX 139 (.slice (some aq) (ps).length cq) ps :: marks mk)) (Sep.drew (Sep.gY (Sep.gY H.out 3 (.string p2.1.f0) rfl) 4 (.int .i64 (en : Int)) rfl)) ?_
        intro qdH n_
        clear H c_e c_p c_x z_x
        have H := n_
        clear n_
        have c_e := H.out.cell (g := ge) mem3
        have c_p := H.out.cell (g := gp) bT
        have c_x := H.out.cell (g := gx) dM
        have z_x := H.out.frozen (g := gx) dM
        go_wp2_with fail
        refine ⟨⟨_, i + 1, ds ++ d1, p2.2 + d1.length, some (p2, en), D :: mk, A2, c2, rfl, rfl, rfl, rfl, rfl, rfl, rfl, ?_, by omega, ?_, ⟨?_⟩, HFN, ⟨?_⟩⟩, ?_⟩
        ·rfl
        ·rw [List.length_append]
         omega
        ·rw [HM.out, List.length_append]
         omega
        ·exact (Sep.iR (Sep.iR (Sep.iR (Sep.iR (Sep.eG (Sep.drop1 (Sep.iJ (Sep.lC H.out))))))))
        ·simp [intOf]
         omega
       ·
        rw [if_neg hto] at HFN
        go_wp2_with fail
        go_wp2_with fail
        refine ⟨⟨_, i + 1, ds ++ d1, p2.2 + d1.length, none, D :: mk, A2, c2, rfl, rfl, rfl, rfl, rfl, rfl, rfl, ?_, by omega, ?_, ⟨?_⟩, HFN, ⟨?_⟩⟩, ?_⟩
        ·rfl
        ·rw [List.length_append]
         omega
        ·rw [HM.out, List.length_append]
         omega
        ·exact (Sep.iR (Sep.iR (Sep.iR (Sep.iR (Sep.eG (Sep.drop1 (Sep.iJ (Sep.lC H.out))))))))
        ·simp [intOf]
         omega
     ·
      have hqi : ¬ (p2.2 : Int) = (m : Int) := by omega
      have HNE := aC.mk hne
      clear hne
      have HFE := aC.mk (qa7 HFI.out (LP hp2) HNE.out)
      have n_ : aC (Sep w wr (box gx [.slice A1 (bV ds n0).length c1, .int .u64 (n0 : Int), .int .u64 (m : Int), .string ⟨#[]⟩, .int .i64 0, .slice none 0 0] 129 :: row k62 62 (.slice A1 (bV ds n0).length c1) (bV ds n0) :: box gz [.slice none 0 0, .int .u64 0, .int .u64 0, .string ⟨#[]⟩, .int .i64 0, .slice none 0 0] 129 :: row dX 139 (.slice (some aq) (ps).length cq) ps :: marks mk)) := ⟨H.out⟩
      clear H c_x z_x c_z
      have H := n_
      clear n_
      have c_x := H.out.cell (g := gx) aP
      have z_x := H.out.frozen (g := gx) aP
      have c_z := H.out.cell (g := gz) mem2
      have z_z := H.out.frozen (g := gz) mem2
      have hcq : (ps.length : Int) ≤ (cq : Int) := by have := (H.out.reads (A := some aq) mem3).2.1; omega
      go_wp2_with (first
 |((with_reducible refine aU (N := 6) rfl ?_);
   refine bK rfl H (cs := [.string ⟨#[]⟩, .string ⟨#[]⟩, .int .i64 0, .int .u64 0]) (t := 139) ?hr ?_;
   (case hr => first | (go_simp; done) | (go_simp; rfl));
   intro gp qep n_;
   simp only [Act.put, zA, zZ, zS];
   clear H c_x z_x c_z z_z;
   have H := n_;
   clear n_;
   have c_p := H.out.cell (g := gp) aP;
   have z_p := H.out.frozen (g := gp) aP;
   have c_x := H.out.cell (g := gx) mem1;
   have z_x := H.out.frozen (g := gx) mem1;
   have c_z := H.out.cell (g := gz) mem3;
   have z_z := H.out.frozen (g := gz) mem3)
 |((with_reducible refine aV (t := 139) (p := 6) rfl ?_);
   refine bH (rs1 := (box gp [.string p2.1.f0, .string p2.1.f1, .int .i64 p2.1.f2, .int .u64 (p2.2 : Int)] 139 :: box gx [.slice A1 (bV ds n0).length c1, .int .u64 (n0 : Int), .int .u64 (m : Int), .string ⟨#[]⟩, .int .i64 0, .slice none 0 0] 129 :: row k62 62 (.slice A1 (bV ds n0).length c1) (bV ds n0) :: box gz [.slice none 0 0, .int .u64 0, .int .u64 0, .string ⟨#[]⟩, .int .i64 0, .slice none 0 0] 129 :: row dX 139 (.slice (some aq) (ps).length cq) ps :: marks mk)) rfl (t := 139) (p := 6) rfl rfl ?hr (H1 := (Sep.set0 (Sep.set0 (Sep.set0 (Sep.set0 H.out 0 (.string p2.1.f0) rfl) 1 (.string p2.1.f1) rfl) 2 (.int .i64 p2.1.f2) rfl) 3 (.int .u64 (p2.2 : Int)) rfl)) ?_;
   (case hr => first | (go_simp; done) | (go_simp; rfl));
   intro qcg n_;
   clear H c_p z_p c_x z_x c_z z_z;
   have H := n_;
   clear n_;
   have c_p := H.out.cell (g := gp) aP;
   have z_p := H.out.frozen (g := gp) aP;
   have c_x := H.out.cell (g := gx) mem1;
   have z_x := H.out.frozen (g := gx) mem1;
   have c_z := H.out.cell (g := gz) mem3;
   have z_z := H.out.frozen (g := gz) mem3;
   clear h0 h1 h2 h3)
 |((with_reducible refine aV (t := 127) (p := 46) rfl ?_);
   refine bH (rs1 := (box gp [.string p2.1.f0, .string p2.1.f1, .int .i64 p2.1.f2, .int .u64 (p2.2 : Int)] 139 :: box gx [.slice A1 (bV ds n0).length c1, .int .u64 (n0 : Int), .int .u64 (m : Int), .string ⟨#[]⟩, .int .i64 0, .slice (some (aq.add (i * 4))) (ps.length - i) (cq - i)] 129 :: row k62 62 (.slice A1 (bV ds n0).length c1) (bV ds n0) :: box gz [.slice none 0 0, .int .u64 0, .int .u64 0, .string ⟨#[]⟩, .int .i64 0, .slice none 0 0] 129 :: row dX 139 (.slice (some aq) (ps).length cq) ps :: marks mk)) rfl (t := 127) (p := 46) rfl rfl ?hr (H1 := (Sep.set1 H.out 5 (.slice (some (aq.add (i * 4))) (ps.length - i) (cq - i)) rfl)) ?_;
   (case hr => first | (go_simp; done) | (go_simp; rfl));
   intro qeq n_;
   clear H c_p z_p c_x z_x c_z z_z;
   have H := n_;
   clear n_;
   have c_p := H.out.cell (g := gp) aP;
   have z_p := H.out.frozen (g := gp) aP;
   have c_x := H.out.cell (g := gx) mem1;
   have z_x := H.out.frozen (g := gx) mem1;
   have c_z := H.out.cell (g := gz) mem3;
   have z_z := H.out.frozen (g := gz) mem3)
 |((with_reducible refine aV (t := 129) (p := 2) rfl ?_);
   refine bH (rs1 := (box gp [.string p2.1.f0, .string p2.1.f1, .int .i64 p2.1.f2, .int .u64 (p2.2 : Int)] 139 :: box gx [.slice A1 (bV ds n0).length c1, .int .u64 (n0 : Int), .int .u64 (m : Int), .string ⟨#[]⟩, .int .i64 0, .slice (some (aq.add (i * 4))) (ps.length - i) (cq - i)] 129 :: row k62 62 (.slice A1 (bV ds n0).length c1) (bV ds n0) :: box gz [.slice A1 (bV ds n0).length c1, .int .u64 (n0 : Int), .int .u64 (m : Int), .string ⟨#[]⟩, .int .i64 0, .slice (some (aq.add (i * 4))) (ps.length - i) (cq - i)] 129 :: row dX 139 (.slice (some aq) (ps).length cq) ps :: marks mk)) rfl (t := 129) (p := 2) rfl rfl ?hr (H1 := (Sep.dY (Sep.dY (Sep.dY (Sep.dY (Sep.dY (Sep.dY H.out 0 (.slice A1 (bV ds n0).length c1) rfl) 1 (.int .u64 (n0 : Int)) rfl) 2 (.int .u64 (m : Int)) rfl) 3 (.string ⟨#[]⟩) rfl) 4 (.int .i64 0) rfl) 5 (.slice (some (aq.add (i * 4))) (ps.length - i) (cq - i)) rfl)) ?_;
   (case hr => first | (go_simp; done) | (go_simp; rfl));
   intro qg6 n_;
   clear H c_p z_p c_x z_x c_z z_z;
   have H := n_;
   clear n_;
   have c_p := H.out.cell (g := gp) aP;
   have z_p := H.out.frozen (g := gp) aP;
   have c_x := H.out.cell (g := gx) mem1;
   have z_x := H.out.frozen (g := gx) mem1;
   have c_z := H.out.cell (g := gz) mem3;
   have z_z := H.out.frozen (g := gz) mem3)
 |fail)
      have hln : (ps.drop i).length = ps.length - i := List.length_drop
      rw [← hln] at H
      obtain rfl := HFE.out
      exact wX (ps := ps) (mk := mk) rfl (Sep.iY (Sep.iW (Sep.iY (Sep.eG (Sep.drop1 H.out))))) (fun w' h => by rw [hln]; exact xY h hi) (by rw [hln]; omega)
    | some tx =>
     have HFE := aC.mk (VX HFI.out)
     have hnt : (pF (some tx)).toList ≠ [] := (oV HOK.out HPS.out (QX (S := SU) (n := n0) (x := tx) (by rw [← HF.out, HFE.out]))).2.2
     obtain ⟨tn, htn⟩ : ∃ tn, tn = pF (some tx) := ⟨_, rfl⟩
     obtain ⟨ta, hta⟩ : ∃ ta, ta = wW (some tx) := ⟨_, rfl⟩
     rw [← htn] at hnt
     rw [← htn, ← hta] at H
     have HTN := aC.mk htn
     have HTA := aC.mk hta
     clear htn hta
     clear c_x z_x c_z
     have c_x := H.out.cell (g := gx) aP
     have z_x := H.out.frozen (g := gx) aP
     have c_z := H.out.cell (g := gz) mem2
     have hnb : (tn.toList == ([] : List UInt8)) = false := beq_eq_false_iff_ne.2 hnt
     clear hnt
     by_cases hne : p2.2 = m
     ·
      subst hne
      have n_ : aC (Sep w wr (box gx [.slice A1 (bV ds n0).length c1, .int .u64 (n0 : Int), .int .u64 (p2.2 : Int), .string tn, .int .i64 ta, .slice none 0 0] 129 :: row k62 62 (.slice A1 (bV ds n0).length c1) (bV ds n0) :: box gz [.slice none 0 0, .int .u64 0, .int .u64 0, .string ⟨#[]⟩, .int .i64 0, .slice none 0 0] 129 :: row dX 139 (.slice (some aq) (ps).length cq) ps :: marks mk)) := ⟨H.out⟩
      clear H c_x z_x c_z
      have H := n_
      clear n_
      have c_x := H.out.cell (g := gx) aP
      have z_x := H.out.frozen (g := gx) aP
      have c_z := H.out.cell (g := gz) mem2
      have z_z := H.out.frozen (g := gz) mem2
      have hcq : (ps.length : Int) ≤ (cq : Int) := by have := (H.out.reads (A := some aq) mem3).2.1; omega
      go_wp2_with (first
 |((with_reducible refine aU (N := 6) rfl ?_);
   refine bK rfl H (cs := [.string ⟨#[]⟩, .string ⟨#[]⟩, .int .i64 0, .int .u64 0]) (t := 139) ?hr ?_;
   (case hr => first | (go_simp; done) | (go_simp; rfl));
   intro gp qg7 n_;
   simp only [Act.put, zA, zZ, zS];
   clear H c_x z_x c_z z_z;
   have H := n_;
   clear n_;
   have c_p := H.out.cell (g := gp) aP;
   have z_p := H.out.frozen (g := gp) aP;
   have c_x := H.out.cell (g := gx) mem1;
   have z_x := H.out.frozen (g := gx) mem1;
   have c_z := H.out.cell (g := gz) mem3;
   have z_z := H.out.frozen (g := gz) mem3)
 |((with_reducible refine aV (t := 139) (p := 6) rfl ?_);
   refine bH (rs1 := (box gp [.string p2.1.f0, .string p2.1.f1, .int .i64 p2.1.f2, .int .u64 (p2.2 : Int)] 139 :: box gx [.slice A1 (bV ds n0).length c1, .int .u64 (n0 : Int), .int .u64 (p2.2 : Int), .string tn, .int .i64 ta, .slice none 0 0] 129 :: row k62 62 (.slice A1 (bV ds n0).length c1) (bV ds n0) :: box gz [.slice none 0 0, .int .u64 0, .int .u64 0, .string ⟨#[]⟩, .int .i64 0, .slice none 0 0] 129 :: row dX 139 (.slice (some aq) (ps).length cq) ps :: marks mk)) rfl (t := 139) (p := 6) rfl rfl ?hr (H1 := (Sep.set0 (Sep.set0 (Sep.set0 (Sep.set0 H.out 0 (.string p2.1.f0) rfl) 1 (.string p2.1.f1) rfl) 2 (.int .i64 p2.1.f2) rfl) 3 (.int .u64 (p2.2 : Int)) rfl)) ?_;
   (case hr => first | (go_simp; done) | (go_simp; rfl));
   intro qg8 n_;
   clear H c_p z_p c_x z_x c_z z_z;
   have H := n_;
   clear n_;
   have c_p := H.out.cell (g := gp) aP;
   have z_p := H.out.frozen (g := gp) aP;
   have c_x := H.out.cell (g := gx) mem1;
   have z_x := H.out.frozen (g := gx) mem1;
   have c_z := H.out.cell (g := gz) mem3;
   have z_z := H.out.frozen (g := gz) mem3;
   clear h0 h1 h2 h3)
 |((with_reducible refine aV (t := 127) (p := 46) rfl ?_);
   refine bH (rs1 := (box gp [.string p2.1.f0, .string p2.1.f1, .int .i64 p2.1.f2, .int .u64 (p2.2 : Int)] 139 :: box gx [.slice A1 (bV ds n0).length c1, .int .u64 (n0 : Int), .int .u64 (p2.2 : Int), .string tn, .int .i64 ta, .slice (some (aq.add (i * 4))) (ps.length - i) (cq - i)] 129 :: row k62 62 (.slice A1 (bV ds n0).length c1) (bV ds n0) :: box gz [.slice none 0 0, .int .u64 0, .int .u64 0, .string ⟨#[]⟩, .int .i64 0, .slice none 0 0] 129 :: row dX 139 (.slice (some aq) (ps).length cq) ps :: marks mk)) rfl (t := 127) (p := 46) rfl rfl ?hr (H1 := (Sep.set1 H.out 5 (.slice (some (aq.add (i * 4))) (ps.length - i) (cq - i)) rfl)) ?_;
   (case hr => first | (go_simp; done) | (go_simp; rfl));
   intro qer n_;
   clear H c_p z_p c_x z_x c_z z_z;
   have H := n_;
   clear n_;
   have c_p := H.out.cell (g := gp) aP;
   have z_p := H.out.frozen (g := gp) aP;
   have c_x := H.out.cell (g := gx) mem1;
   have z_x := H.out.frozen (g := gx) mem1;
   have c_z := H.out.cell (g := gz) mem3;
   have z_z := H.out.frozen (g := gz) mem3)
 |((with_reducible refine aV (t := 129) (p := 2) rfl ?_);
   refine bH (rs1 := (box gp [.string p2.1.f0, .string p2.1.f1, .int .i64 p2.1.f2, .int .u64 (p2.2 : Int)] 139 :: box gx [.slice A1 (bV ds n0).length c1, .int .u64 (n0 : Int), .int .u64 (p2.2 : Int), .string tn, .int .i64 ta, .slice (some (aq.add (i * 4))) (ps.length - i) (cq - i)] 129 :: row k62 62 (.slice A1 (bV ds n0).length c1) (bV ds n0) :: box gz [.slice A1 (bV ds n0).length c1, .int .u64 (n0 : Int), .int .u64 (p2.2 : Int), .string tn, .int .i64 ta, .slice (some (aq.add (i * 4))) (ps.length - i) (cq - i)] 129 :: row dX 139 (.slice (some aq) (ps).length cq) ps :: marks mk)) rfl (t := 129) (p := 2) rfl rfl ?hr (H1 := (Sep.dY (Sep.dY (Sep.dY (Sep.dY (Sep.dY (Sep.dY H.out 0 (.slice A1 (bV ds n0).length c1) rfl) 1 (.int .u64 (n0 : Int)) rfl) 2 (.int .u64 (p2.2 : Int)) rfl) 3 (.string tn) rfl) 4 (.int .i64 ta) rfl) 5 (.slice (some (aq.add (i * 4))) (ps.length - i) (cq - i)) rfl)) ?_;
   (case hr => first | (go_simp; done) | (go_simp; rfl));
   intro qg9 n_;
   clear H c_p z_p c_x z_x c_z z_z;
   have H := n_;
   clear n_;
   have c_p := H.out.cell (g := gp) aP;
   have z_p := H.out.frozen (g := gp) aP;
   have c_x := H.out.cell (g := gx) mem1;
   have z_x := H.out.frozen (g := gx) mem1;
   have c_z := H.out.cell (g := gz) mem3;
   have z_z := H.out.frozen (g := gz) mem3)
 |fail)
      have hln : (ps.drop i).length = ps.length - i := List.length_drop
      rw [← hln, HTN.out, HTA.out] at H
      obtain rfl := HFE.out
      exact wX (ps := ps) (mk := mk) rfl (Sep.iY (Sep.iW (Sep.iY (Sep.eG (Sep.drop1 H.out))))) (fun w' h => by rw [hln]; exact xY h hi) (by rw [hln]; omega)
     ·
      have hqi : ¬ (p2.2 : Int) = (m : Int) := by omega
      clear hne
      have n_ : aC (Sep w wr (box gx [.slice A1 (bV ds n0).length c1, .int .u64 (n0 : Int), .int .u64 (m : Int), .string tn, .int .i64 ta, .slice none 0 0] 129 :: row k62 62 (.slice A1 (bV ds n0).length c1) (bV ds n0) :: box gz [.slice none 0 0, .int .u64 0, .int .u64 0, .string ⟨#[]⟩, .int .i64 0, .slice none 0 0] 129 :: row dX 139 (.slice (some aq) (ps).length cq) ps :: marks mk)) := ⟨H.out⟩
      clear H c_x z_x c_z
      have H := n_
      clear n_
      have c_x := H.out.cell (g := gx) aP
      have z_x := H.out.frozen (g := gx) aP
      have c_z := H.out.cell (g := gz) mem2
      have z_z := H.out.frozen (g := gz) mem2
      have hcq : (ps.length : Int) ≤ (cq : Int) := by have := (H.out.reads (A := some aq) mem3).2.1; omega
      go_wp2_with (first
 |((with_reducible refine aU (N := 6) rfl ?_);
   refine bK rfl H (cs := [.string ⟨#[]⟩, .string ⟨#[]⟩, .int .i64 0, .int .u64 0]) (t := 139) ?hr ?_;
   (case hr => first | (go_simp; done) | (go_simp; rfl));
   intro gp qha n_;
   simp only [Act.put, zA, zZ, zS];
   clear H c_x z_x c_z z_z;
   have H := n_;
   clear n_;
   have c_p := H.out.cell (g := gp) aP;
   have z_p := H.out.frozen (g := gp) aP;
   have c_x := H.out.cell (g := gx) mem1;
   have z_x := H.out.frozen (g := gx) mem1;
   have c_z := H.out.cell (g := gz) mem3;
   have z_z := H.out.frozen (g := gz) mem3)
 |((with_reducible refine aV (t := 139) (p := 6) rfl ?_);
   refine bH (rs1 := (box gp [.string p2.1.f0, .string p2.1.f1, .int .i64 p2.1.f2, .int .u64 (p2.2 : Int)] 139 :: box gx [.slice A1 (bV ds n0).length c1, .int .u64 (n0 : Int), .int .u64 (m : Int), .string tn, .int .i64 ta, .slice none 0 0] 129 :: row k62 62 (.slice A1 (bV ds n0).length c1) (bV ds n0) :: box gz [.slice none 0 0, .int .u64 0, .int .u64 0, .string ⟨#[]⟩, .int .i64 0, .slice none 0 0] 129 :: row dX 139 (.slice (some aq) (ps).length cq) ps :: marks mk)) rfl (t := 139) (p := 6) rfl rfl ?hr (H1 := (Sep.set0 (Sep.set0 (Sep.set0 (Sep.set0 H.out 0 (.string p2.1.f0) rfl) 1 (.string p2.1.f1) rfl) 2 (.int .i64 p2.1.f2) rfl) 3 (.int .u64 (p2.2 : Int)) rfl)) ?_;
   (case hr => first | (go_simp; done) | (go_simp; rfl));
   intro qhb n_;
   clear H c_p z_p c_x z_x c_z z_z;
   have H := n_;
   clear n_;
   have c_p := H.out.cell (g := gp) aP;
   have z_p := H.out.frozen (g := gp) aP;
   have c_x := H.out.cell (g := gx) mem1;
   have z_x := H.out.frozen (g := gx) mem1;
   have c_z := H.out.cell (g := gz) mem3;
   have z_z := H.out.frozen (g := gz) mem3;
   clear h0 h1 h2 h3)
 |((with_reducible refine aV (t := 127) (p := 46) rfl ?_);
   refine bH (rs1 := (box gp [.string p2.1.f0, .string p2.1.f1, .int .i64 p2.1.f2, .int .u64 (p2.2 : Int)] 139 :: box gx [.slice A1 (bV ds n0).length c1, .int .u64 (n0 : Int), .int .u64 (m : Int), .string tn, .int .i64 ta, .slice (some (aq.add (i * 4))) (ps.length - i) (cq - i)] 129 :: row k62 62 (.slice A1 (bV ds n0).length c1) (bV ds n0) :: box gz [.slice none 0 0, .int .u64 0, .int .u64 0, .string ⟨#[]⟩, .int .i64 0, .slice none 0 0] 129 :: row dX 139 (.slice (some aq) (ps).length cq) ps :: marks mk)) rfl (t := 127) (p := 46) rfl rfl ?hr (H1 := (Sep.set1 H.out 5 (.slice (some (aq.add (i * 4))) (ps.length - i) (cq - i)) rfl)) ?_;
   (case hr => first | (go_simp; done) | (go_simp; rfl));
   intro qhc n_;
   clear H c_p z_p c_x z_x c_z z_z;
   have H := n_;
   clear n_;
   have c_p := H.out.cell (g := gp) aP;
   have z_p := H.out.frozen (g := gp) aP;
   have c_x := H.out.cell (g := gx) mem1;
   have z_x := H.out.frozen (g := gx) mem1;
   have c_z := H.out.cell (g := gz) mem3;
   have z_z := H.out.frozen (g := gz) mem3)
 |((with_reducible refine aV (t := 129) (p := 2) rfl ?_);
   refine bH (rs1 := (box gp [.string p2.1.f0, .string p2.1.f1, .int .i64 p2.1.f2, .int .u64 (p2.2 : Int)] 139 :: box gx [.slice A1 (bV ds n0).length c1, .int .u64 (n0 : Int), .int .u64 (m : Int), .string tn, .int .i64 ta, .slice (some (aq.add (i * 4))) (ps.length - i) (cq - i)] 129 :: row k62 62 (.slice A1 (bV ds n0).length c1) (bV ds n0) :: box gz [.slice A1 (bV ds n0).length c1, .int .u64 (n0 : Int), .int .u64 (m : Int), .string tn, .int .i64 ta, .slice (some (aq.add (i * 4))) (ps.length - i) (cq - i)] 129 :: row dX 139 (.slice (some aq) (ps).length cq) ps :: marks mk)) rfl (t := 129) (p := 2) rfl rfl ?hr (H1 := (Sep.dY (Sep.dY (Sep.dY (Sep.dY (Sep.dY (Sep.dY H.out 0 (.slice A1 (bV ds n0).length c1) rfl) 1 (.int .u64 (n0 : Int)) rfl) 2 (.int .u64 (m : Int)) rfl) 3 (.string tn) rfl) 4 (.int .i64 ta) rfl) 5 (.slice (some (aq.add (i * 4))) (ps.length - i) (cq - i)) rfl)) ?_;
   (case hr => first | (go_simp; done) | (go_simp; rfl));
   intro qhd n_;
   clear H c_p z_p c_x z_x c_z z_z;
   have H := n_;
   clear n_;
   have c_p := H.out.cell (g := gp) aP;
   have z_p := H.out.frozen (g := gp) aP;
   have c_x := H.out.cell (g := gx) mem1;
   have z_x := H.out.frozen (g := gx) mem1;
   have c_z := H.out.cell (g := gz) mem3;
   have z_z := H.out.frozen (g := gz) mem3)
 |fail)
      have hln : (ps.drop i).length = ps.length - i := List.length_drop
      rw [← hln, HTN.out, HTA.out] at H
      obtain rfl := HFE.out
      exact wX (ps := ps) (mk := mk) rfl (Sep.iY (Sep.iW (Sep.iY (Sep.eG (Sep.drop1 H.out))))) (fun w' h => by rw [hln]; exact xY h hi) (by rw [hln]; omega)
   ·
    have hdr : ps.drop i = [] := List.drop_eq_nil_of_le (by omega)
    have HFE : aC (F = ⟨ds, m, t, []⟩) := ⟨by
     cases t with
     | none => exact qdG HFI.out (by omega)
     | some tx => rw [VX HFI.out, hdr]⟩
    obtain ⟨tn, htn⟩ : ∃ tn, tn = pF t := ⟨_, rfl⟩
    obtain ⟨ta, hta⟩ : ∃ ta, ta = wW t := ⟨_, rfl⟩
    rw [← htn, ← hta] at H
    have HTN := aC.mk htn
    have HTA := aC.mk hta
    clear htn hta hdr
    have qhe : (ps.length : Int) ≤ (i : Int) := by omega
    have c_x := H.out.cell (g := gx) aP
    have c_z := H.out.cell (g := gz) mem2
    have z_z := H.out.frozen (g := gz) mem2
    go_wp2_with (first
 |((with_reducible refine aV (t := 129) (p := 2) rfl ?_);
   refine bH (rs1 := (box gx [.slice A1 (bV ds n0).length c1, .int .u64 (n0 : Int), .int .u64 (m : Int), .string tn, .int .i64 ta, .slice none 0 0] 129 :: row k62 62 (.slice A1 (bV ds n0).length c1) (bV ds n0) :: box gz [.slice A1 (bV ds n0).length c1, .int .u64 (n0 : Int), .int .u64 (m : Int), .string tn, .int .i64 ta, .slice none 0 0] 129 :: row dX 139 (.slice (some aq) (ps).length cq) ps :: marks mk)) rfl (t := 129) (p := 2) rfl rfl ?hr (H1 := (Sep.set2 (Sep.set2 (Sep.set2 (Sep.set2 (Sep.set2 (Sep.set2 H.out 0 (.slice A1 (bV ds n0).length c1) rfl) 1 (.int .u64 (n0 : Int)) rfl) 2 (.int .u64 (m : Int)) rfl) 3 (.string tn) rfl) 4 (.int .i64 ta) rfl) 5 (.slice none 0 0) rfl)) ?_;
   (case hr => first | (go_simp; done) | (go_simp; rfl));
   intro qhf n_;
   clear H c_x c_z z_z;
   have H := n_;
   clear n_;
   have c_x := H.out.cell (g := gx) aP;
   have c_z := H.out.cell (g := gz) mem2;
   have z_z := H.out.frozen (g := gz) mem2)
 |fail)
    rw [HTN.out, HTA.out] at H
    obtain rfl := HFE.out
    exact wX (ps := ps) (mk := mk) rfl (Sep.iY (Sep.iW (Sep.iY (Sep.eG H.out)))) (fun w' h => Kd.PK _ _) (Nat.le_refl _)
end Go.Proofs.U
namespace Go.Proofs.U
open Go.RowKit Go.Proofs.aA.aK Go.Proofs.aA.aW Go.Proofs.aA.aX Go.Proofs.Sp Go.Proofs.gB
theorem sD {P : Program} {ops : Array Oper} {Q : Exit → Act → World → Prop} {oi : Oper} {N : Option Tmp} {a : Act} {w : World} {K : Act → World → Prop} {f : FuncId} {fn : Func} {aa : Array Operand} {ts : Array TypeId} (hf : P.funcs[f]? = some fn) (hname : (fn.name == "runtime.NumGoroutine") = false) (hb : fn.body.isSome = true) (args : Array Value)
  (hw : Region.wanted oi (yielded ops a.tmps) = true) (hN : oi.dst = N) (hop : oi.op = .call { callee := .value (.func f), args := aa, argTypes := ts }) (hargs : aa.map a.eval = args)
  (h : Calls P f args w fun e w' => (∃ v, e = .returned v ∧ K (a.put N v) w') ∨ (∃ ch, e = .panicked ch ∧ Q (.panic ch) a w')) : if Region.wanted oi (yielded ops a.tmps) = true then Oper.wp P oi a w K Q else K (a.put N undef) w := by
 rw [if_pos hw]
 subst hN
 have he := jO hf hname hb args w
 have hrun : (execOp a.eval oi).run P w = .ok (.enter f args) w := by
  unfold execOp
  simp [hop, resolve, Deferred.ofValue, invoke, Act.eval, hargs, he]
 unfold Oper.wp
 rw [hrun, Oper.upon_enter]
 refine h.mono fun e w'' hh => ?_
 rcases hh with ⟨v, rfl, hk⟩ | ⟨ch, rfl, hk⟩
 ·exact hk
 ·exact hk
def lK : Lg → List Pl → Lg × Int
 | L, [] => (L, 0)
 | L, p :: r => if (gX L.l L.dn L.fu L.fa p.1.f0).2.2.2.2 = 0 then lK (chg L (gX L.l L.dn L.fu L.fa p.1.f0)) r else (chg L (gX L.l L.dn L.fu L.fa p.1.f0), (gX L.l L.dn L.fu L.fa p.1.f0).2.2.2.2)
def oK (L : Lg) (t : Option (Pl × Nat)) : Lg × Int :=
 match t with
 | none => (L, 0)
 | some x => (chg L (CV L.l L.dn L.fu L.fa x.1.1.f0 (x.2 : Int)), (CV L.l L.dn L.fu L.fa x.1.1.f0 (x.2 : Int)).2.2.2.2)
def iC (L : Lg) (F : gB.Fd) (n : Nat) : Lg × Int :=
 if (lK L F.gone.reverse).2 = 0 then
  if (oK (lK L F.gone.reverse).1 F.qN).2 = 0 then ({ (oK (lK L F.gone.reverse).1 F.qN).1 with fr := (n : Int), nx := (F.next : Int) }, 0)
  else oK (lK L F.gone.reverse).1 F.qN
 else lK L F.gone.reverse
set_option maxHeartbeats 8000000 in
theorem qch (b : World) (gl gf gv : Nat) {tn : ByteArray} {ta : Int} (L0 : Lg) (F : gB.Fd) (n : Nat) (A1 A2 Aq : Option Addr) (nr c1 c2 cq : Nat) (ps : List Pl)
  (hC : ∀ W, Kd.C dX W Aq ps.length ps → Kd.C dX W A2 F.gone.length F.gone) (hlen : F.gone.length ≤ 64) (hn : pF F.qN = tn) (ht : ∀ x, F.qN = some x → x.1.1.f0.toList ≠ []) (hta : wW F.qN = ta) :
  LK b gl 71 #[.pointer (some ⟨gf, 0, none⟩), .pointer (some ⟨gv, 0, none⟩)] L0 [box gf [.slice A1 nr c1, .int .u64 (n : Int), .int .u64 (F.next : Int), .string tn, .int .i64 (ta : Int), .slice A2 F.gone.length c2] 129, box gv [.pointer (some ⟨gl, 0, none⟩)] 131, row dX 139 (.slice Aq (ps).length cq) ps] (iC L0 F n).1 (iC L0 F n).2 := by
 intro A c w ts H0
 have HC := aC.mk hC
 have HT := aC.mk ht
 have HN := aC.mk hn
 have HA := aC.mk hta
 clear hC ht hn hta
 obtain ⟨g, hg⟩ : ∃ g, g = F.gone := ⟨_, rfl⟩
 rw [← hg] at hlen HC H0
 have HG := aC.mk hg
 clear hg
 have H : aC (Sep b w (box gl [.slice A L0.l.length c, .bool L0.dn, .int .i64 L0.fu, .int .i64 L0.fa, .int .i64 L0.size, .int .u64 L0.fr, .int .u64 L0.nx, .bool L0.br] 134 :: row k67 67 (.slice A (L0.l).length c) L0.l :: box gf [.slice A1 nr c1, .int .u64 (n : Int), .int .u64 (F.next : Int), .string tn, .int .i64 ta, .slice A2 g.length c2] 129 :: box gv [.pointer (some ⟨gl, 0, none⟩)] 131 :: row dX 139 (.slice Aq (ps).length cq) ps :: ts)) := H0
 clear H0
 have c_l := H.out.cell (g := gl) aP
 have z_l := H.out.frozen (g := gl) aP
 have c_f := H.out.cell (g := gf) mem2
 have c_v := H.out.cell (g := gv) mem3
 go_enter Tryz.func71, Tryz.ntmps71
 go_wp2_with fail
 go_loopw [2] (fun v2 wr => ∃ (k : Nat) (L : Lg) (A : Option Addr) (c : Nat), v2 = .int .i64 ((k : Int) - 1) ∧ k ≤ g.length ∧ aC (lK L0 g.reverse = lK L (g.take k).reverse) ∧ aC (Sep b wr (box gl [.slice A L.l.length c, .bool L.dn, .int .i64 L.fu, .int .i64 L.fa, .int .i64 L.size, .int .u64 L.fr, .int .u64 L.nx, .bool L.br] 134 :: row k67 67 (.slice A (L.l).length c) L.l :: box gf [.slice A1 nr c1, .int .u64 (n : Int), .int .u64 (F.next : Int), .string tn, .int .i64 ta, .slice A2 g.length c2] 129 :: box gv [.pointer (some ⟨gl, 0, none⟩)] 131 :: row dX 139 (.slice Aq (ps).length cq) ps :: ts))) (fun v2 _ => ((intOf v2) + 1).toNat)
 case atStart => exact ⟨g.length, L0, A, c, rfl, Nat.le_refl _, ⟨by rw [List.take_length]⟩, H⟩
 case round =>
  clear H c_l z_l c_f c_v
  obtain ⟨k, L, A, c, rfl, hk, HR, H⟩ := hrel
  have c_l := H.out.cell (g := gl) aP
  have z_l := H.out.frozen (g := gl) aP
  have c_f := H.out.cell (g := gf) mem2
  have c_v := H.out.cell (g := gv) mem3
  cases k with
  | succ j =>
   obtain ⟨p, hp⟩ : ∃ p, g[j]? = some p := ⟨_, List.getElem?_eq_getElem (by omega)⟩
   rw [show (((j + 1 : Nat) : Int) - 1) = (j : Int) by omega]
   have HR2 : aC (lK L0 g.reverse = lK L (p :: (g.take j).reverse)) := ⟨by rw [HR.out, List.take_add_one, hp]; simp⟩
   clear HR
   obtain ⟨ag, e1⟩ := D9 (HC.out _ (H.out.reads (A := Aq) bT).2.2) (by omega)
   subst e1
   obtain ⟨h0, _, _, _⟩ := sV (HC.out _ (H.out.reads (A := Aq) bT).2.2) hp
   have HP := aC.mk hp
   clear hp
   have hj0 : (0 : Int) ≤ (j : Int) := by omega
   have hj1 : (j : Int) < (g.length : Int) := by omega
   obtain ⟨D, hD⟩ : ∃ D, D = gX L.l L.dn L.fu L.fa p.1.f0 := ⟨_, rfl⟩
   have HD := aC.mk hD
   clear hD
   clear c_l z_l c_f c_v
   have c_l := H.out.cell (g := gl) aP
   have z_l := H.out.frozen (g := gl) aP
   have c_f := H.out.cell (g := gf) mem2
   have c_v := H.out.cell (g := gv) mem3
   go_upto_region 3 with fail
   refine fO (n := 17) (S := fun w' => (∀ j : Nat, w'.cell? ⟨gv, j, none⟩ = [.pointer (some ⟨gl, 0, none⟩)][j]?) ∧ (∀ j : Nat, w'.cell? ⟨gl, j, none⟩ = [.slice A L.l.length c, .bool L.dn, .int .i64 L.fu, .int .i64 L.fa, .int .i64 L.size, .int .u64 L.fr, .int .u64 L.nx, .bool L.br][j]?) ∧ (∀ j : Nat, w'.cell? ⟨gf, j, none⟩ = [.slice A1 nr c1, .int .u64 (n : Int), .int .u64 (F.next : Int), .string tn, .int .i64 ta, .slice (some ag) g.length c2][j]?) ∧ w'.cell? (ag.add (j * 4)) = some (.string p.1.f0) ∧ Sp.Sep b w' (box gl [.slice A L.l.length c, .bool L.dn, .int .i64 L.fu, .int .i64 L.fa, .int .i64 L.size, .int .u64 L.fr, .int .u64 L.nx, .bool L.br] 134 :: row k67 67 (.slice A (L.l).length c) L.l :: box gf [.slice A1 nr c1, .int .u64 (n : Int), .int .u64 (F.next : Int), .string tn, .int .i64 ta, .slice (some ag) g.length c2] 129 :: box gv [.pointer (some ⟨gl, 0, none⟩)] 131 :: row dX 139 (.slice Aq (ps).length cq) ps :: ts)) (ds := [16]) #[false, false, false, false, false, false, false, false, false, false, false, false, false, false, false, false, false] (by kernel_rfl) rfl rfl ⟨(fun j => ((Sep.drew H.out)).cell (g := gv) mem3 j), (fun j => ((Sep.drew H.out)).cell (g := gl) aP j), (fun j => ((Sep.drew H.out)).cell (g := gf) mem2 j), (sV (HC.out _ (Sep.reads (A := Aq) (Sep.drew H.out) bT).2.2) HP.out).1, (Sep.drew H.out)⟩ (fun hHeld => ?_)
   refine puS (i := 6) (N := some 17) (v := ?_) (a' := ?_) rfl rfl (by kernel_rfl) (fun _ _ _ h => h) (Or.inl ⟨by rfl, ?_⟩) ?_ ?_
   rotate_left
   ·intro w'
    go_simp
    with_reducible rfl
   rotate_left
   ·simp only [Act.put, zA, zZ, zS, aI, aJ]
    rfl
   refine puS (i := 8) (N := some 19) (v := ?_) (a' := ?_) rfl rfl (by kernel_rfl) (fun _ _ _ h => h) (Or.inl ⟨by rfl, ?_⟩) ?_ ?_
   rotate_left
   ·intro w'
    go_simp
    with_reducible rfl
   rotate_left
   ·simp only [Act.put, zA, zZ, zS, aI, aJ]
    rfl
   refine tkS (i := 0) (N := some 11) (v := ?_) (a' := ?_) rfl rfl (by kernel_rfl) (fun _ _ _ h => h) (Or.inl ⟨by rfl, ?_⟩) hHeld ?_ ?_
   rotate_left
   ·rintro w' ⟨s0, s1, s2, s3, s4⟩
    go_simp
    with_reducible rfl
   rotate_left
   ·simp only [Act.put, zA, zZ, zS, aI, aJ]
    rfl
   refine tkS (i := 1) (N := some 12) (v := ?_) (a' := ?_) rfl rfl (by kernel_rfl) (fun _ _ _ h => h) (Or.inl ⟨by rfl, ?_⟩) hHeld ?_ ?_
   rotate_left
   ·rintro w' ⟨s0, s1, s2, s3, s4⟩
    go_simp
    with_reducible rfl
   rotate_left
   ·simp only [Act.put, zA, zZ, zS, aI, aJ]
    rfl
   refine puS (i := 2) (N := some 13) (v := ?_) (a' := ?_) rfl rfl (by kernel_rfl) (fun _ _ _ h => h) (Or.inl ⟨by rfl, ?_⟩) ?_ ?_
   rotate_left
   ·intro w'
    go_simp
    with_reducible rfl
   rotate_left
   ·simp only [Act.put, zA, zZ, zS, aI, aJ]
    rfl
   refine puS (i := 3) (N := some 14) (v := ?_) (a' := ?_) rfl rfl (by kernel_rfl) (fun _ _ _ h => h) (Or.inl ⟨by rfl, ?_⟩) ?_ ?_
   rotate_left
   ·intro w'
    go_simp
    with_reducible rfl
   rotate_left
   ·simp only [Act.put, zA, zZ, zS, aI, aJ]
    rfl
   refine puS (i := 4) (N := some 15) (v := ?_) (a' := ?_) rfl rfl (by kernel_rfl) (fun _ _ _ h => h) (Or.inl ⟨by rfl, ?_⟩) ?_ ?_
   rotate_left
   ·intro w'
    go_simp
    with_reducible rfl
   rotate_left
   ·simp only [Act.put, zA, zZ, zS, aI, aJ]
    rfl
   refine tkS (i := 5) (N := some 16) (v := ?_) (a' := ?_) rfl rfl (by kernel_rfl) (fun _ _ _ h => h) (Or.inl ⟨by rfl, ?_⟩) hHeld ?_ ?_
   rotate_left
   ·rintro w' ⟨s0, s1, s2, s3, s4⟩
    go_simp
    with_reducible rfl
   rotate_left
   ·simp only [Act.put, zA, zZ, zS, aI, aJ]
    rfl
   refine tkS (i := 7) (N := some 18) (v := ?_) (a' := ?_) rfl rfl (by kernel_rfl) (fun _ _ _ h => h) (Or.inl ⟨by rfl, ?_⟩) hHeld ?_ ?_
   rotate_left
   ·rintro w' ⟨s0, s1, s2, s3, s4⟩
    go_simp
    with_reducible rfl
   rotate_left
   ·simp only [Act.put, zA, zZ, zS, aI, aJ]
    rfl
   refine puS (i := 9) (N := some 20) (v := ?_) (a' := ?_) rfl rfl (by kernel_rfl) (fun _ _ _ h => h) (Or.inl ⟨by rfl, ?_⟩) ?_ ?_
   rotate_left
   ·intro w'
    go_simp
    with_reducible rfl
   rotate_left
   ·simp only [Act.put, zA, zZ, zS, aI, aJ]
    rfl
   refine puS (i := 10) (N := some 21) (v := ?_) (a' := ?_) rfl rfl (by kernel_rfl) (fun _ _ _ h => h) (Or.inl ⟨by rfl, ?_⟩) ?_ ?_
   rotate_left
   ·intro w'
    go_simp
    with_reducible rfl
   rotate_left
   ·simp only [Act.put, zA, zZ, zS, aI, aJ]
    rfl
   refine puS (i := 11) (N := some 22) (v := ?_) (a' := ?_) rfl rfl (by kernel_rfl) (fun _ _ _ h => h) (Or.inl ⟨by rfl, ?_⟩) ?_ ?_
   rotate_left
   ·intro w'
    go_simp
    with_reducible rfl
   rotate_left
   ·simp only [Act.put, zA, zZ, zS, aI, aJ]
    rfl
   refine tkS (i := 12) (N := some 23) (v := ?_) (a' := ?_) rfl rfl (by kernel_rfl) (fun _ _ _ h => h) (Or.inl ⟨by rfl, ?_⟩) hHeld ?_ ?_
   rotate_left
   ·rintro w' ⟨s0, s1, s2, s3, s4⟩
    go_simp
    with_reducible rfl
   rotate_left
   ·simp only [Act.put, zA, zZ, zS, aI, aJ]
    rfl
   refine onS (i := 13) (N := some 24) rfl rfl (by kernel_rfl) (by decide) (fun K hK => ?_)
   refine oC Tryz.func73 (by kernel_rfl) rfl #[.agg #[.slice A L.l.length c, .bool L.dn, .int .i64 L.fu, .int .i64 L.fa], .string p.1.f0] (by rfl) rfl rfl (by simp only [List.map_toArray, List.map_cons, List.map_nil]; rfl) ?_
   with_reducible refine (oP.calls A c L.l L.dn L.fu L.fa p.1.f0 D.1 D.2.1 D.2.2.1 D.2.2.2.1 D.2.2.2.2 _ (Sep.reads hHeld.2.2.2.2 mem1).2.2 (Sep.reads hHeld.2.2.2.2 mem1).2.1 (by rw [wP, ← HD.out])).mono ?_
   rintro e w3 ⟨v_, rfl, ho_, hb_⟩
   obtain ⟨A3, c3, eo_⟩ := Kd.dZ ho_
   subst eo_
   have HN3 := aC.mk (Sep.jQ hHeld.2.2.2.2 hb_ ho_ o9)
   refine ⟨_, rfl, ?_⟩
   refine hK.out _ _ ⟨(fun j => ((Sep.step hHeld.2.2.2.2 hb_)).cell (g := gv) mem3 j), (fun j => ((Sep.step hHeld.2.2.2.2 hb_)).cell (g := gl) aP j), (fun j => ((Sep.step hHeld.2.2.2.2 hb_)).cell (g := gf) mem2 j), (sV (HC.out _ (Sep.reads (A := Aq) (Sep.step hHeld.2.2.2.2 hb_) bT).2.2) HP.out).1, (Sep.step hHeld.2.2.2.2 hb_)⟩ (fun hHeld => ?_)
   clear hK K
   refine fE (a' := ?_) ?_ ?_
   rotate_left
   ·show Act.put _ (some 24) _ = _
    simp only [Act.put, zA, zZ, zS, aI, aJ]
    rfl
   refine puS (i := 14) (N := some 25) (v := ?_) (a' := ?_) rfl rfl (by kernel_rfl) (fun _ _ _ h => h) (Or.inl ⟨by rfl, ?_⟩) ?_ ?_
   rotate_left
   ·intro w'
    go_simp
    with_reducible rfl
   rotate_left
   ·simp only [Act.put, zA, zZ, zS, aI, aJ]
    rfl
   refine puS (i := 15) (N := some 26) (v := ?_) (a' := ?_) rfl rfl (by kernel_rfl) (fun _ _ _ h => h) (Or.inl ⟨by rfl, ?_⟩) ?_ ?_
   rotate_left
   ·intro w'
    go_simp
    with_reducible rfl
   rotate_left
   ·simp only [Act.put, zA, zZ, zS, aI, aJ]
    rfl
   refine laS (i := 16) (N := some 27) rfl rfl (by kernel_rfl) (by decide) (fun K hK => ?_)
   refine sD Tryz.func72 (by kernel_rfl) rfl #[.pointer (some ⟨gl, 0, none⟩), .agg #[.slice A3 D.1.length c3, .bool D.2.1, .int .i64 D.2.2.1, .int .i64 D.2.2.2.1], .int .i64 D.2.2.2.2] (by rfl) rfl rfl (by simp only [List.map_toArray, List.map_cons, List.map_nil]; rfl) ?_
   refine (pV gl A c L A3 c3 D (rs := lV A3 c3 D.1 :: (row k67 67 (.slice A (L.l).length c) L.l :: box gf [.slice A1 nr c1, .int .u64 (n : Int), .int .u64 (F.next : Int), .string tn, .int .i64 ta, .slice (some ag) g.length c2] 129 :: box gv [.pointer (some ⟨gl, 0, none⟩)] 131 :: row dX 139 (.slice Aq (ps).length cq) ps :: ts)) ⟨HN3.out.iW⟩).mono ?_
   rintro e w4 ⟨hE, H4⟩
   rcases hE with ⟨hz, rfl⟩ | ⟨hnz, rfl⟩
   rotate_left
   ·refine .inr ⟨_, rfl, ?_⟩
    show _ ∧ _
    have hOD : iC L0 F n = (chg L D, D.2.2.2.2) := by rw [iC, ← HG.out, HR2.out, lK, ← HD.out, if_neg hnz, if_neg hnz]
    rw [hOD, ← HG.out]
    exact ⟨rfl, .inr ⟨hnz, rfl⟩, A3, c3, ⟨H4.out.drop2⟩⟩
   refine .inl ⟨_, rfl, ?_⟩
   refine hK.out _ _ ?_
   clear hK K
   refine fE (a' := ?_) ?_ ?_
   rotate_left
   ·show Act.put _ (some 27) _ = _
    simp only [Act.put, zA, zZ, zS, aI, aJ]
    rfl
   refine iT (by kernel_rfl) ?_
   go_wp2
   refine ⟨⟨j, chg L D, A3, c3, rfl, by omega, ⟨?_⟩, ⟨H4.out.drop2⟩⟩, by simp [intOf]⟩
   rw [HR2.out, lK, ← HD.out, if_pos hz]
  | zero =>
   have hR : lK L0 g.reverse = (L, 0) := by rw [HR.out]; rfl
   have HRR := aC.mk hR
   clear HR hR
   simp only [Int.natCast_zero, Int.zero_sub]
   cases hto : F.qN with
   | none =>
    have htn : tn = ⟨#[]⟩ := by rw [← HN.out, hto]; rfl
    subst htn
    go_wp2_with (first
 |((with_reducible refine aV (t := 28) (p := 53) rfl ?_);
   refine bH (rs1 := (box gl [.slice A L.l.length c, .bool L.dn, .int .i64 L.fu, .int .i64 L.fa, .int .i64 L.size, .int .u64 (n : Int), .int .u64 L.nx, .bool L.br] 134 :: row k67 67 (.slice A (L.l).length c) L.l :: box gf [.slice A1 nr c1, .int .u64 (n : Int), .int .u64 (F.next : Int), .string ⟨#[]⟩, .int .i64 ta, .slice A2 g.length c2] 129 :: box gv [.pointer (some ⟨gl, 0, none⟩)] 131 :: row dX 139 (.slice Aq (ps).length cq) ps :: ts)) rfl (t := 28) (p := 53) rfl rfl ?hr (H1 := (Sep.set0 H.out 5 (.int .u64 (n : Int)) rfl)) ?_;
   (case hr => first | (go_simp; done) | (go_simp; rfl));
   intro wd1 n_;
   clear H c_l z_l c_f c_v;
   have H := n_;
   clear n_;
   have c_l := H.out.cell (g := gl) aP;
   have z_l := H.out.frozen (g := gl) aP;
   have c_f := H.out.cell (g := gf) mem2;
   have c_v := H.out.cell (g := gv) mem3)
 |((with_reducible refine aV (t := 28) (p := 56) rfl ?_);
   refine bH (rs1 := (box gl [.slice A L.l.length c, .bool L.dn, .int .i64 L.fu, .int .i64 L.fa, .int .i64 L.size, .int .u64 (n : Int), .int .u64 (F.next : Int), .bool L.br] 134 :: row k67 67 (.slice A (L.l).length c) L.l :: box gf [.slice A1 nr c1, .int .u64 (n : Int), .int .u64 (F.next : Int), .string ⟨#[]⟩, .int .i64 ta, .slice A2 g.length c2] 129 :: box gv [.pointer (some ⟨gl, 0, none⟩)] 131 :: row dX 139 (.slice Aq (ps).length cq) ps :: ts)) rfl (t := 28) (p := 56) rfl rfl ?hr (H1 := (Sep.set0 H.out 6 (.int .u64 (F.next : Int)) rfl)) ?_;
   (case hr => first | (go_simp; done) | (go_simp; rfl));
   intro wd2 n_;
   clear H c_l z_l c_f c_v;
   have H := n_;
   clear n_;
   have c_l := H.out.cell (g := gl) aP;
   have z_l := H.out.frozen (g := gl) aP;
   have c_f := H.out.cell (g := gf) mem2;
   have c_v := H.out.cell (g := gv) mem3)
 |fail)
    go_end0
    have hOD : iC L0 F n = ({ L with fr := (n : Int), nx := (F.next : Int) }, 0) := by
     rw [iC, ← HG.out, HRR.out, if_pos rfl, hto, oK, if_pos rfl]
    rw [hOD, ← HG.out]
    exact ⟨.inl ⟨rfl, rfl⟩, A, c, H⟩
   | some x =>
    have hne := HT.out x hto
    have htn : tn = x.1.1.f0 := by rw [← HN.out, hto]; rfl
    have hta : ta = (x.2 : Int) := by rw [← HA.out, hto]; rfl
    rw [← htn] at hne
    have hnb : (tn.toList == ([] : List UInt8)) = false := beq_eq_false_iff_ne.2 hne
    obtain ⟨D, hD⟩ : ∃ D, D = CV L.l L.dn L.fu L.fa tn ta := ⟨_, rfl⟩
    have HD := aC.mk hD
    have hct : oK L F.qN = (chg L D, D.2.2.2.2) := by rw [hto, oK, hD, htn, hta]
    have HCT := aC.mk hct
    clear hD hct htn hta hne
    go_upto_region 5 with fail
    refine fO (n := 14) (S := fun w' => (∀ j : Nat, w'.cell? ⟨gv, j, none⟩ = [.pointer (some ⟨gl, 0, none⟩)][j]?) ∧ (∀ j : Nat, w'.cell? ⟨gl, j, none⟩ = [.slice A L.l.length c, .bool L.dn, .int .i64 L.fu, .int .i64 L.fa, .int .i64 L.size, .int .u64 L.fr, .int .u64 L.nx, .bool L.br][j]?) ∧ (∀ j : Nat, w'.cell? ⟨gf, j, none⟩ = [.slice A1 nr c1, .int .u64 (n : Int), .int .u64 (F.next : Int), .string tn, .int .i64 ta, .slice A2 g.length c2][j]?) ∧ Sp.Sep b w' (box gl [.slice A L.l.length c, .bool L.dn, .int .i64 L.fu, .int .i64 L.fa, .int .i64 L.size, .int .u64 L.fr, .int .u64 L.nx, .bool L.br] 134 :: row k67 67 (.slice A (L.l).length c) L.l :: box gf [.slice A1 nr c1, .int .u64 (n : Int), .int .u64 (F.next : Int), .string tn, .int .i64 ta, .slice A2 g.length c2] 129 :: box gv [.pointer (some ⟨gl, 0, none⟩)] 131 :: row dX 139 (.slice Aq (ps).length cq) ps :: ts)) (ds := [13]) #[false, false, false, false, false, false, false, false, false, false, false, false, false, false] (by kernel_rfl) rfl rfl ⟨(fun j => ((Sep.drew H.out)).cell (g := gv) mem3 j), (fun j => ((Sep.drew H.out)).cell (g := gl) aP j), (fun j => ((Sep.drew H.out)).cell (g := gf) mem2 j), (Sep.drew H.out)⟩ (fun hHeld => ?_)
    refine puS (i := 6) (N := some 37) (v := ?_) (a' := ?_) rfl rfl (by kernel_rfl) (fun _ _ _ h => h) (Or.inl ⟨by rfl, ?_⟩) ?_ ?_
    rotate_left
    ·intro w'
     go_simp
     with_reducible rfl
    rotate_left
    ·simp only [Act.put, zA, zZ, zS, aI, aJ]
     rfl
    refine puS (i := 8) (N := some 39) (v := ?_) (a' := ?_) rfl rfl (by kernel_rfl) (fun _ _ _ h => h) (Or.inl ⟨by rfl, ?_⟩) ?_ ?_
    rotate_left
    ·intro w'
     go_simp
     with_reducible rfl
    rotate_left
    ·simp only [Act.put, zA, zZ, zS, aI, aJ]
     rfl
    refine tkS (i := 0) (N := some 31) (v := ?_) (a' := ?_) rfl rfl (by kernel_rfl) (fun _ _ _ h => h) (Or.inl ⟨by rfl, ?_⟩) hHeld ?_ ?_
    rotate_left
    ·rintro w' ⟨s0, s1, s2, s3⟩
     go_simp
     with_reducible rfl
    rotate_left
    ·simp only [Act.put, zA, zZ, zS, aI, aJ]
     rfl
    refine tkS (i := 1) (N := some 32) (v := ?_) (a' := ?_) rfl rfl (by kernel_rfl) (fun _ _ _ h => h) (Or.inl ⟨by rfl, ?_⟩) hHeld ?_ ?_
    rotate_left
    ·rintro w' ⟨s0, s1, s2, s3⟩
     go_simp
     with_reducible rfl
    rotate_left
    ·simp only [Act.put, zA, zZ, zS, aI, aJ]
     rfl
    refine puS (i := 2) (N := some 33) (v := ?_) (a' := ?_) rfl rfl (by kernel_rfl) (fun _ _ _ h => h) (Or.inl ⟨by rfl, ?_⟩) ?_ ?_
    rotate_left
    ·intro w'
     go_simp
     with_reducible rfl
    rotate_left
    ·simp only [Act.put, zA, zZ, zS, aI, aJ]
     rfl
    refine puS (i := 3) (N := some 34) (v := ?_) (a' := ?_) rfl rfl (by kernel_rfl) (fun _ _ _ h => h) (Or.inl ⟨by rfl, ?_⟩) ?_ ?_
    rotate_left
    ·intro w'
     go_simp
     with_reducible rfl
    rotate_left
    ·simp only [Act.put, zA, zZ, zS, aI, aJ]
     rfl
    refine puS (i := 4) (N := some 35) (v := ?_) (a' := ?_) rfl rfl (by kernel_rfl) (fun _ _ _ h => h) (Or.inl ⟨by rfl, ?_⟩) ?_ ?_
    rotate_left
    ·intro w'
     go_simp
     with_reducible rfl
    rotate_left
    ·simp only [Act.put, zA, zZ, zS, aI, aJ]
     rfl
    refine tkS (i := 5) (N := some 36) (v := ?_) (a' := ?_) rfl rfl (by kernel_rfl) (fun _ _ _ h => h) (Or.inl ⟨by rfl, ?_⟩) hHeld ?_ ?_
    rotate_left
    ·rintro w' ⟨s0, s1, s2, s3⟩
     go_simp
     with_reducible rfl
    rotate_left
    ·simp only [Act.put, zA, zZ, zS, aI, aJ]
     rfl
    refine tkS (i := 7) (N := some 38) (v := ?_) (a' := ?_) rfl rfl (by kernel_rfl) (fun _ _ _ h => h) (Or.inl ⟨by rfl, ?_⟩) hHeld ?_ ?_
    rotate_left
    ·rintro w' ⟨s0, s1, s2, s3⟩
     go_simp
     with_reducible rfl
    rotate_left
    ·simp only [Act.put, zA, zZ, zS, aI, aJ]
     rfl
    refine tkS (i := 9) (N := some 40) (v := ?_) (a' := ?_) rfl rfl (by kernel_rfl) (fun _ _ _ h => h) (Or.inl ⟨by rfl, ?_⟩) hHeld ?_ ?_
    rotate_left
    ·rintro w' ⟨s0, s1, s2, s3⟩
     go_simp
     with_reducible rfl
    rotate_left
    ·simp only [Act.put, zA, zZ, zS, aI, aJ]
     rfl
    refine onS (i := 10) (N := some 41) rfl rfl (by kernel_rfl) (by decide) (fun K hK => ?_)
    refine oC Tryz.func74 (by kernel_rfl) rfl #[.agg #[.slice A L.l.length c, .bool L.dn, .int .i64 L.fu, .int .i64 L.fa], .string tn, .int .i64 ta] (by rfl) rfl rfl (by simp only [List.map_toArray, List.map_cons, List.map_nil]; rfl) ?_
    with_reducible refine (wM.calls A c L.l L.dn L.fu L.fa tn ta D.1 D.2.1 D.2.2.1 D.2.2.2.1 D.2.2.2.2 _ (Sep.reads hHeld.2.2.2 mem1).2.2 (Sep.reads hHeld.2.2.2 mem1).2.1 (by rw [QE, ← HD.out])).mono ?_
    rintro e w3 ⟨v_, rfl, ho_, hb_⟩
    obtain ⟨A3, c3, eo_⟩ := Kd.dZ ho_
    subst eo_
    have HN3 := aC.mk (Sep.jQ hHeld.2.2.2 hb_ ho_ o9)
    refine ⟨_, rfl, ?_⟩
    refine hK.out _ _ ⟨(fun j => ((Sep.step hHeld.2.2.2 hb_)).cell (g := gv) mem3 j), (fun j => ((Sep.step hHeld.2.2.2 hb_)).cell (g := gl) aP j), (fun j => ((Sep.step hHeld.2.2.2 hb_)).cell (g := gf) mem2 j), (Sep.step hHeld.2.2.2 hb_)⟩ (fun hHeld => ?_)
    clear hK K
    refine fE (a' := ?_) ?_ ?_
    rotate_left
    ·show Act.put _ (some 41) _ = _
     simp only [Act.put, zA, zZ, zS, aI, aJ]
     rfl
    refine puS (i := 11) (N := some 42) (v := ?_) (a' := ?_) rfl rfl (by kernel_rfl) (fun _ _ _ h => h) (Or.inl ⟨by rfl, ?_⟩) ?_ ?_
    rotate_left
    ·intro w'
     go_simp
     with_reducible rfl
    rotate_left
    ·simp only [Act.put, zA, zZ, zS, aI, aJ]
     rfl
    refine puS (i := 12) (N := some 43) (v := ?_) (a' := ?_) rfl rfl (by kernel_rfl) (fun _ _ _ h => h) (Or.inl ⟨by rfl, ?_⟩) ?_ ?_
    rotate_left
    ·intro w'
     go_simp
     with_reducible rfl
    rotate_left
    ·simp only [Act.put, zA, zZ, zS, aI, aJ]
     rfl
    refine laS (i := 13) (N := some 44) rfl rfl (by kernel_rfl) (by decide) (fun K hK => ?_)
    refine sD Tryz.func72 (by kernel_rfl) rfl #[.pointer (some ⟨gl, 0, none⟩), .agg #[.slice A3 D.1.length c3, .bool D.2.1, .int .i64 D.2.2.1, .int .i64 D.2.2.2.1], .int .i64 D.2.2.2.2] (by rfl) rfl rfl (by simp only [List.map_toArray, List.map_cons, List.map_nil]; rfl) ?_
    refine (pV gl A c L A3 c3 D (rs := lV A3 c3 D.1 :: (row k67 67 (.slice A (L.l).length c) L.l :: box gf [.slice A1 nr c1, .int .u64 (n : Int), .int .u64 (F.next : Int), .string tn, .int .i64 ta, .slice A2 g.length c2] 129 :: box gv [.pointer (some ⟨gl, 0, none⟩)] 131 :: row dX 139 (.slice Aq (ps).length cq) ps :: ts)) ⟨HN3.out.iW⟩).mono ?_
    rintro e w4 ⟨hE, H4⟩
    rcases hE with ⟨hz, rfl⟩ | ⟨hnz, rfl⟩
    rotate_left
    ·refine .inr ⟨_, rfl, ?_⟩
     show _ ∧ _
     have hOD : iC L0 F n = (chg L D, D.2.2.2.2) := by rw [iC, ← HG.out, HRR.out, if_pos rfl, HCT.out, if_neg hnz]
     rw [hOD, ← HG.out]
     exact ⟨rfl, .inr ⟨hnz, rfl⟩, A3, c3, ⟨H4.out.drop2⟩⟩
    refine .inl ⟨_, rfl, ?_⟩
    refine hK.out _ _ ?_
    clear hK K
    refine fE (a' := ?_) ?_ ?_
    rotate_left
    ·show Act.put _ (some 44) _ = _
     simp only [Act.put, zA, zZ, zS, aI, aJ]
     rfl
    refine iT (by kernel_rfl) ?_
    clear c_l z_l c_f c_v H
    have H : aC (Sep b w4 (box gl [.slice A3 D.1.length c3, .bool D.2.1, .int .i64 D.2.2.1, .int .i64 D.2.2.2.1, .int .i64 L.size, .int .u64 L.fr, .int .u64 L.nx, .bool (if D.2.2.2.2 = 0 then L.br else true)] 134 :: row k67 67 (.slice A3 (D.1).length c3) D.1 :: box gf [.slice A1 nr c1, .int .u64 (n : Int), .int .u64 (F.next : Int), .string tn, .int .i64 ta, .slice A2 g.length c2] 129 :: box gv [.pointer (some ⟨gl, 0, none⟩)] 131 :: row dX 139 (.slice Aq (ps).length cq) ps :: ts)) := ⟨H4.out.drop2⟩
    clear H4 HN3
    have c_l := H.out.cell (g := gl) aP
    have z_l := H.out.frozen (g := gl) aP
    have c_f := H.out.cell (g := gf) mem2
    have c_v := H.out.cell (g := gv) mem3
    go_wp2_with (first
 |((with_reducible refine aV (t := 28) (p := 53) rfl ?_);
   refine bH (rs1 := (box gl [.slice A3 D.1.length c3, .bool D.2.1, .int .i64 D.2.2.1, .int .i64 D.2.2.2.1, .int .i64 L.size, .int .u64 (n : Int), .int .u64 L.nx, .bool (if D.2.2.2.2 = 0 then L.br else true)] 134 :: row k67 67 (.slice A3 (D.1).length c3) D.1 :: box gf [.slice A1 nr c1, .int .u64 (n : Int), .int .u64 (F.next : Int), .string tn, .int .i64 ta, .slice A2 g.length c2] 129 :: box gv [.pointer (some ⟨gl, 0, none⟩)] 131 :: row dX 139 (.slice Aq (ps).length cq) ps :: ts)) rfl (t := 28) (p := 53) rfl rfl ?hr (H1 := (Sep.set0 H.out 5 (.int .u64 (n : Int)) rfl)) ?_;
   (case hr => first | (go_simp; done) | (go_simp; rfl));
   intro wd3 n_;
   clear H c_l z_l c_f c_v;
   have H := n_;
   clear n_;
   have c_l := H.out.cell (g := gl) aP;
   have z_l := H.out.frozen (g := gl) aP;
   have c_f := H.out.cell (g := gf) mem2;
   have c_v := H.out.cell (g := gv) mem3)
 |((with_reducible refine aV (t := 28) (p := 56) rfl ?_);
   refine bH (rs1 := (box gl [.slice A3 D.1.length c3, .bool D.2.1, .int .i64 D.2.2.1, .int .i64 D.2.2.2.1, .int .i64 L.size, .int .u64 (n : Int), .int .u64 (F.next : Int), .bool (if D.2.2.2.2 = 0 then L.br else true)] 134 :: row k67 67 (.slice A3 (D.1).length c3) D.1 :: box gf [.slice A1 nr c1, .int .u64 (n : Int), .int .u64 (F.next : Int), .string tn, .int .i64 ta, .slice A2 g.length c2] 129 :: box gv [.pointer (some ⟨gl, 0, none⟩)] 131 :: row dX 139 (.slice Aq (ps).length cq) ps :: ts)) rfl (t := 28) (p := 56) rfl rfl ?hr (H1 := (Sep.set0 H.out 6 (.int .u64 (F.next : Int)) rfl)) ?_;
   (case hr => first | (go_simp; done) | (go_simp; rfl));
   intro wd4 n_;
   clear H c_l z_l c_f c_v;
   have H := n_;
   clear n_;
   have c_l := H.out.cell (g := gl) aP;
   have z_l := H.out.frozen (g := gl) aP;
   have c_f := H.out.cell (g := gf) mem2;
   have c_v := H.out.cell (g := gv) mem3)
 |fail)
    go_end0
    have hOD : iC L0 F n = ({ chg L D with fr := (n : Int), nx := (F.next : Int) }, 0) := by
     rw [iC, ← HG.out, HRR.out, if_pos rfl, HCT.out, if_pos hz]
    rw [hOD, ← HG.out]
    exact ⟨.inl ⟨rfl, rfl⟩, A3, c3, H⟩
end Go.Proofs.U
